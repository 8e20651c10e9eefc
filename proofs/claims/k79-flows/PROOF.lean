import PyProof.Rows.All
import Wide.All
import OpenK.AllK
import Wide.FinOn
import HandS.ForMost
import HandS.ForExc
import HandS.CallSlots
import HandS.TryMany
import HandS.ExcSuper
import HandS.ExcField
import HandS.TupAny
import HandS.Deep
import HandS.TupLen
import HandS.Conv
import HandS.RaiseMore
import HandS.Wide
import HandS.Walk
import HandS.SortOrd
import HandS.DictTup
import HandS.Style
import HandS.SortInts
import HandS.SortRule
import HandS.Flow
import HandS.Small
import HandS.Words
import HandS.ExcInit
import KE.KExcSuper
import HandS.HeadHook2
import HandS.HeadHook4
import HandS.HeadEnd
import HandS.Head0
import HandS.Head1
import HandS.Head2
import PySem.Challenge.RW_townroads_k79_whole_flows
import HandS.TupMul
import KE.GoesEnum
import HandS.IsInst
import HandS.ExcOwn
import PyProof.ExcBaseAll.ValueError  -- so
import HandS.HeadHook1
set_option Elab.async false
set_option linter.all false
section
set_option Elab.async false
set_option linter.all false
set_option maxRecDepth 100000
set_option maxHeartbeats 3900000
/-! DL1: plain data, how values stand for data in the abstract heap. -/
namespace DL
open L2 PySem PySem.Spec PyProof.Rows

inductive D where
  | non | bl (b : Bool) | int (i : Int) | str (x : Str)
  | tup (xs : List D) | lst (xs : List D)
  | dK (kvs : List (Key × D)) | dT (kvs : List (List Key × D))
  | scr (ns : List Int)

/-- two lists of addresses have none in common -/
def Dj (F G : List Addr) : Prop := ∀ a, a ∈ F → a ∉ G
theorem Dj.nil_l {G : List Addr} : Dj [] G := fun _ h => by cases h
theorem Dj.nil_r {F : List Addr} : Dj F [] := fun _ _ h => by cases h
theorem Dj.symm {F G : List Addr} (h : Dj F G) : Dj G F := fun a h1 h2 => h a h2 h1

/-- the law's own list of ints: locked, or of the module -/
def SqS (K : PySem.W.Frag) (H : Hp) (a : Addr) (xs : List V) : Prop :=
  (∃ o, H a = some (.frz o (.lst xs))) ∨
    ∃ (ob : Obj) (is : Array Value) (m : Nat), K.lookup a = some ob ∧ ob.cls = .type "list" ∧ ob.dict = none ∧ ob.data = .seq is m ∧ is.size ≤ sizeLine ∧ Vals xs is.toList
theorem SqS.sq {K : PySem.W.Frag} {H : Hp} {a : Addr} {xs : List V} (h : SqS K H a xs) : SqL K H a xs := by
  rcases h with ⟨o, h⟩ | h
  · exact .inl (.inr ⟨o, h⟩)
  · exact .inr h

/-- values vs stand for data ds; level n: how deep what is mutable is owned; F: the addresses that are owned -/
inductive Rs (K : PySem.W.Frag) (H : Hp) (Z : Addr → Prop) : Nat → List V → List D → List Addr → Prop
  | nil {n} : Rs K H Z n [] [] []
  | non {n vs ds F} : Rs K H Z n vs ds F → Rs K H Z n (.non :: vs) (.non :: ds) F
  | bl {n vs ds F} (b) : Rs K H Z n vs ds F → Rs K H Z n (.bl b :: vs) (.bl b :: ds) F
  | int {n vs ds F} (i) : Rs K H Z n vs ds F → Rs K H Z n (.int i :: vs) (.int i :: ds) F
  | str {n vs ds F} (x) : Rs K H Z n vs ds F → Rs K H Z n (.str x :: vs) (.str x :: ds) F
  | tup {n vs ds F a xs es G} : H a = some (.tup xs) → Rs K H Z n xs es G → Rs K H Z n vs ds F → Dj G F → Rs K H Z n (.ref a :: vs) (.tup es :: ds) (G ++ F)
  | scr {n vs ds F a ns} : SqS K H a (ns.map V.int) → Rs K H Z n vs ds F → Rs K H Z n (.ref a :: vs) (.scr ns :: ds) F
  | l0 {vs ds F a xs es} : H a = some (.lst xs) → Z a → Rs K H Z 0 xs es [] → Rs K H Z 0 vs ds F → Rs K H Z 0 (.ref a :: vs) (.lst es :: ds) F
  | l1 {n vs ds F a xs es G} : H a = some (.lst xs) → Rs K H Z n xs es G → Rs K H Z (n + 1) vs ds F → a ∉ G → Dj (a :: G) F → Rs K H Z (n + 1) (.ref a :: vs) (.lst es :: ds) ((a :: G) ++ F)
  | k0 {vs ds F a ps kvs} : H a = some (.dK ps) → Z a → ps.map (·.1) = kvs.map (·.1) → Rs K H Z 0 (ps.map (·.2)) (kvs.map (·.2)) [] → Rs K H Z 0 vs ds F → Rs K H Z 0 (.ref a :: vs) (.dK kvs :: ds) F
  | k1 {n vs ds F a ps kvs G} : H a = some (.dK ps) → ps.map (·.1) = kvs.map (·.1) → Rs K H Z n (ps.map (·.2)) (kvs.map (·.2)) G → Rs K H Z (n + 1) vs ds F → a ∉ G → Dj (a :: G) F →
      Rs K H Z (n + 1) (.ref a :: vs) (.dK kvs :: ds) ((a :: G) ++ F)
  | t0 {vs ds F a ps kvs} : H a = some (.dT ps) → Z a → ps.map (·.1) = kvs.map (·.1) → Rs K H Z 0 (ps.map (·.2)) (kvs.map (·.2)) [] → Rs K H Z 0 vs ds F → Rs K H Z 0 (.ref a :: vs) (.dT kvs :: ds) F
  | t1 {n vs ds F a ps kvs G} : H a = some (.dT ps) → ps.map (·.1) = kvs.map (·.1) → Rs K H Z n (ps.map (·.2)) (kvs.map (·.2)) G → Rs K H Z (n + 1) vs ds F → a ∉ G → Dj (a :: G) F →
      Rs K H Z (n + 1) (.ref a :: vs) (.dT kvs :: ds) ((a :: G) ++ F)

/-- one value -/
abbrev Rep (K : PySem.W.Frag) (H : Hp) (Z : Addr → Prop) (n : Nat) (v : V) (d : D) (F : List Addr) : Prop := Rs K H Z n [v] [d] F

section
variable {K : PySem.W.Frag} {H H' : Hp} {Z Z' : Addr → Prop} {n m : Nat} {v : V} {vs ws : List V} {d : D} {ds es : List D} {F G : List Addr}

theorem Rs.length (h : Rs K H Z n vs ds F) : vs.length = ds.length := by
  induction h <;> simp_all
/-- what is owned is mutable -/
theorem Rs.muts (h : Rs K H Z n vs ds F) : ∀ a ∈ F, Mut (H a) := by
  induction h with
  | nil => intro a h; cases h
  | non _ ih => exact ih
  | bl _ _ ih => exact ih
  | int _ _ ih => exact ih
  | str _ _ ih => exact ih
  | tup _ _ _ _ ih1 ih2 => intro b hb; rcases List.mem_append.mp hb with h | h; exact ih1 b h; exact ih2 b h
  | scr _ _ ih => exact ih
  | l0 _ _ _ _ _ ih => exact ih
  | l1 e _ _ _ _ ih1 ih2 =>
    intro b hb
    rcases List.mem_append.mp hb with h | h
    · rcases List.mem_cons.mp h with h | h
      · rw [h, e]; trivial
      · exact ih1 b h
    · exact ih2 b h
  | k0 _ _ _ _ _ _ ih => exact ih
  | k1 e _ _ _ _ _ ih1 ih2 =>
    intro b hb
    rcases List.mem_append.mp hb with h | h
    · rcases List.mem_cons.mp h with h | h
      · rw [h, e]; trivial
      · exact ih1 b h
    · exact ih2 b h
  | t0 _ _ _ _ _ _ ih => exact ih
  | t1 e _ _ _ _ _ ih1 ih2 =>
    intro b hb
    rcases List.mem_append.mp hb with h | h
    · rcases List.mem_cons.mp h with h | h
      · rw [h, e]; trivial
      · exact ih1 b h
    · exact ih2 b h
/-- what is owned is there -/
theorem Rs.there (h : Rs K H Z n vs ds F) {a : Addr} (ha : a ∈ F) : H a ≠ none := fun e => by
  have := h.muts a ha; rw [e] at this; exact this
/-- at level 0 nothing is owned -/
theorem Rs.lev0 (h : Rs K H Z n vs ds F) : n = 0 → F = [] := by
  induction h with
  | nil => intro _; rfl
  | non _ ih => exact ih
  | bl _ _ ih => exact ih
  | int _ _ ih => exact ih
  | str _ _ ih => exact ih
  | tup _ _ _ _ ih1 ih2 => intro e; rw [ih1 e, ih2 e]; rfl
  | scr _ _ ih => exact ih
  | l0 _ _ _ _ _ ih => exact ih
  | l1 => intro e; cases e
  | k0 _ _ _ _ _ _ ih => exact ih
  | k1 => intro e; cases e
  | t0 _ _ _ _ _ _ ih => exact ih
  | t1 => intro e; cases e
theorem Rs.nilF (h : Rs K H Z 0 vs ds F) : F = [] := h.lev0 rfl
theorem Rs.at0 (h : Rs K H Z 0 vs ds F) : Rs K H Z 0 vs ds [] := by have := h.nilF; subst this; exact h

/-- the heap grows and changes elsewhere -/
theorem Rs.keep (h : Rs K H Z n vs ds F) (k : ∀ a o, H a = some o → (¬ Mut (some o) ∨ Z a ∨ a ∈ F) → H' a = some o) (hz : ∀ a, Z a → Z' a) : Rs K H' Z' n vs ds F := by
  induction h with
  | nil => exact .nil
  | non _ ih => exact .non (ih k)
  | bl b _ ih => exact .bl b (ih k)
  | int b _ ih => exact .int b (ih k)
  | str b _ ih => exact .str b (ih k)
  | tup e _ _ dj ih1 ih2 =>
    exact .tup (k _ _ e (.inl fun h => h)) (ih1 fun a o e q => k a o e (q.imp id (Or.imp id (List.mem_append_left _)))) (ih2 fun a o e q => k a o e (q.imp id (Or.imp id (List.mem_append_right _)))) dj
  | scr f _ ih =>
    refine .scr ?_ (ih k)
    rcases f with ⟨o, e⟩ | f
    · exact .inl ⟨o, k _ _ e (.inl fun h => h)⟩
    · exact .inr f
  | l0 e z _ _ ih1 ih2 =>
    exact .l0 (k _ _ e (.inr (.inl z))) (hz _ z) (ih1 fun a o e q => k a o e (q.imp id (Or.imp id fun z => by cases z))) (ih2 k)
  | l1 e _ _ na dj ih1 ih2 =>
    exact .l1 (k _ _ e (.inr (.inr (by simp)))) (ih1 fun a o e q => k a o e (q.imp id (Or.imp id fun z => by simp [z]))) (ih2 fun a o e q => k a o e (q.imp id (Or.imp id fun z => by simp [z]))) na dj
  | k0 e z ek _ _ ih1 ih2 =>
    exact .k0 (k _ _ e (.inr (.inl z))) (hz _ z) ek (ih1 fun a o e q => k a o e (q.imp id (Or.imp id fun z => by cases z))) (ih2 k)
  | k1 e ek _ _ na dj ih1 ih2 =>
    exact .k1 (k _ _ e (.inr (.inr (by simp)))) ek (ih1 fun a o e q => k a o e (q.imp id (Or.imp id fun z => by simp [z]))) (ih2 fun a o e q => k a o e (q.imp id (Or.imp id fun z => by simp [z]))) na dj
  | t0 e z ek _ _ ih1 ih2 =>
    exact .t0 (k _ _ e (.inr (.inl z))) (hz _ z) ek (ih1 fun a o e q => k a o e (q.imp id (Or.imp id fun z => by cases z))) (ih2 k)
  | t1 e ek _ _ na dj ih1 ih2 =>
    exact .t1 (k _ _ e (.inr (.inr (by simp)))) ek (ih1 fun a o e q => k a o e (q.imp id (Or.imp id fun z => by simp [z]))) (ih2 fun a o e q => k a o e (q.imp id (Or.imp id fun z => by simp [z]))) na dj

/-- what was owned is from now on only read -/
theorem Rs.freeze (h : Rs K H Z n vs ds F) (hz : ∀ a, Z a → Z' a) (hf : ∀ a ∈ F, Z' a) : Rs K H Z' 0 vs ds [] := by
  induction h with
  | nil => exact .nil
  | non _ ih => exact .non (ih hf)
  | bl b _ ih => exact .bl b (ih hf)
  | int b _ ih => exact .int b (ih hf)
  | str b _ ih => exact .str b (ih hf)
  | tup e _ _ dj ih1 ih2 =>
    have := Rs.tup e (ih1 fun a h => hf a (List.mem_append_left _ h)) (ih2 fun a h => hf a (List.mem_append_right _ h)) Dj.nil_l
    simpa using this
  | scr f _ ih => exact .scr f (ih hf)
  | l0 e z _ _ ih1 ih2 => exact .l0 e (hz _ z) (ih1 fun a h => by cases h) (ih2 hf)
  | l1 e _ _ na dj ih1 ih2 => exact .l0 e (hf _ (by simp)) (ih1 fun a h => hf a (by simp [h])) (ih2 fun a h => hf a (by simp [h]))
  | k0 e z ek _ _ ih1 ih2 => exact .k0 e (hz _ z) ek (ih1 fun a h => by cases h) (ih2 hf)
  | k1 e ek _ _ na dj ih1 ih2 => exact .k0 e (hf _ (by simp)) ek (ih1 fun a h => hf a (by simp [h])) (ih2 fun a h => hf a (by simp [h]))
  | t0 e z ek _ _ ih1 ih2 => exact .t0 e (hz _ z) ek (ih1 fun a h => by cases h) (ih2 hf)
  | t1 e ek _ _ na dj ih1 ih2 => exact .t0 e (hf _ (by simp)) ek (ih1 fun a h => hf a (by simp [h])) (ih2 fun a h => hf a (by simp [h]))

mutual
/-- nothing mutable within -/
def imm : D → Bool
  | .non | .bl _ | .int _ | .str _ => true
  | .tup xs => imms xs
  | _ => false
def imms : List D → Bool
  | [] => true
  | x :: xs => imm x && imms xs
end
theorem Rs.imm (h : Rs K H Z n vs ds F) : imms ds = true → F = [] ∧ ∀ m Z', Rs K H Z' m vs ds [] := by
  induction h with
  | nil => exact fun _ => ⟨rfl, fun _ _ => .nil⟩
  | non _ ih => intro e; simp [imms, DL.imm] at e; exact ⟨(ih e).1, fun m Z' => .non ((ih e).2 m Z')⟩
  | bl b _ ih => intro e; simp [imms, DL.imm] at e; exact ⟨(ih e).1, fun m Z' => .bl b ((ih e).2 m Z')⟩
  | int b _ ih => intro e; simp [imms, DL.imm] at e; exact ⟨(ih e).1, fun m Z' => .int b ((ih e).2 m Z')⟩
  | str b _ ih => intro e; simp [imms, DL.imm] at e; exact ⟨(ih e).1, fun m Z' => .str b ((ih e).2 m Z')⟩
  | tup e _ _ dj ih1 ih2 =>
    intro q
    simp [imms, DL.imm] at q
    refine ⟨by rw [(ih1 q.1).1, (ih2 q.2).1]; rfl, fun m Z' => ?_⟩
    have := Rs.tup e ((ih1 q.1).2 m Z') ((ih2 q.2).2 m Z') Dj.nil_l
    simpa using this
  | scr => intro q; simp [imms, DL.imm] at q
  | l0 => intro q; simp [imms, DL.imm] at q
  | l1 => intro q; simp [imms, DL.imm] at q
  | k0 => intro q; simp [imms, DL.imm] at q
  | k1 => intro q; simp [imms, DL.imm] at q
  | t0 => intro q; simp [imms, DL.imm] at q
  | t1 => intro q; simp [imms, DL.imm] at q
theorem Rep.imm (h : Rep K H Z n v d F) (e : imm d = true) : F = [] ∧ ∀ m Z', Rep K H Z' m v d [] := Rs.imm h (by simp [imms, e])

/-- one after another -/
theorem Rs.split (h : Rs K H Z n vs ds F) : ∀ {w : V} {ws : List V} {e : D} {es : List D}, vs = w :: ws → ds = e :: es → ∃ F1 F2, F = F1 ++ F2 ∧ Rep K H Z n w e F1 ∧ Rs K H Z n ws es F2 ∧ Dj F1 F2 := by
  cases h with
  | nil => intro w ws e es h; cases h
  | non h => intro w ws e es h1 h2; cases h1; cases h2; exact ⟨[], _, rfl, .non .nil, h, Dj.nil_l⟩
  | bl b h => intro w ws e es h1 h2; cases h1; cases h2; exact ⟨[], _, rfl, .bl b .nil, h, Dj.nil_l⟩
  | int b h => intro w ws e es h1 h2; cases h1; cases h2; exact ⟨[], _, rfl, .int b .nil, h, Dj.nil_l⟩
  | str b h => intro w ws e es h1 h2; cases h1; cases h2; exact ⟨[], _, rfl, .str b .nil, h, Dj.nil_l⟩
  | tup e0 h1 h2 dj => intro w ws e es q1 q2; cases q1; cases q2; exact ⟨_, _, rfl, by have := Rs.tup e0 h1 .nil Dj.nil_r; simpa using this, h2, dj⟩
  | scr f h2 => intro w ws e es q1 q2; cases q1; cases q2; exact ⟨[], _, rfl, .scr f .nil, h2, Dj.nil_l⟩
  | l0 f z h1 h2 => intro w ws e es q1 q2; cases q1; cases q2; exact ⟨[], _, rfl, .l0 f z h1 .nil, h2, Dj.nil_l⟩
  | l1 e0 h1 h2 na dj => intro w ws e es q1 q2; cases q1; cases q2; exact ⟨_, _, rfl, by have := Rs.l1 e0 h1 .nil na Dj.nil_r; simpa using this, h2, dj⟩
  | k0 e0 z ek h1 h2 => intro w ws e es q1 q2; cases q1; cases q2; exact ⟨[], _, rfl, .k0 e0 z ek h1 .nil, h2, Dj.nil_l⟩
  | k1 e0 ek h1 h2 na dj => intro w ws e es q1 q2; cases q1; cases q2; exact ⟨_, _, rfl, by have := Rs.k1 e0 ek h1 .nil na Dj.nil_r; simpa using this, h2, dj⟩
  | t0 e0 z ek h1 h2 => intro w ws e es q1 q2; cases q1; cases q2; exact ⟨[], _, rfl, .t0 e0 z ek h1 .nil, h2, Dj.nil_l⟩
  | t1 e0 ek h1 h2 na dj => intro w ws e es q1 q2; cases q1; cases q2; exact ⟨_, _, rfl, by have := Rs.t1 e0 ek h1 .nil na Dj.nil_r; simpa using this, h2, dj⟩
theorem Rs.cons_inv (h : Rs K H Z n (v :: vs) (d :: ds) F) : ∃ F1 F2, F = F1 ++ F2 ∧ Rep K H Z n v d F1 ∧ Rs K H Z n vs ds F2 ∧ Dj F1 F2 := h.split rfl rfl
theorem Rs.nil_inv (h : Rs K H Z n vs [] F) : vs = [] ∧ F = [] := by cases h; exact ⟨rfl, rfl⟩
theorem Rs.cons (h : Rep K H Z n v d F) (r : Rs K H Z n vs ds G) (dj : Dj F G) : Rs K H Z n (v :: vs) (d :: ds) (F ++ G) := by
  cases h with
  | non h => cases h; exact .non r
  | bl b h => cases h; exact .bl b r
  | int b h => cases h; exact .int b r
  | str b h => cases h; exact .str b r
  | tup e h1 h2 dj2 => cases h2; rw [List.append_nil] at dj ⊢; exact .tup e h1 r dj
  | scr f h2 => cases h2; exact .scr f r
  | l0 f z h1 h2 => cases h2; exact .l0 f z h1 r
  | l1 e h1 h2 na dj2 => cases h2; rw [List.append_nil] at dj ⊢; exact .l1 e h1 r na dj
  | k0 e z ek h1 h2 => cases h2; exact .k0 e z ek h1 r
  | k1 e ek h1 h2 na dj2 => cases h2; rw [List.append_nil] at dj ⊢; exact .k1 e ek h1 r na dj
  | t0 e z ek h1 h2 => cases h2; exact .t0 e z ek h1 r
  | t1 e ek h1 h2 na dj2 => cases h2; rw [List.append_nil] at dj ⊢; exact .t1 e ek h1 r na dj
theorem Rs.cons0 (h : Rep K H Z 0 v d []) (r : Rs K H Z 0 vs ds []) : Rs K H Z 0 (v :: vs) (d :: ds) [] := by have := Rs.cons h r Dj.nil_l; simpa using this
theorem Rs.cons0_inv (h : Rs K H Z 0 (v :: vs) (d :: ds) F) : Rep K H Z 0 v d [] ∧ Rs K H Z 0 vs ds [] := by
  obtain ⟨F1, F2, _, h1, h2, _⟩ := h.cons_inv
  exact ⟨h1.at0, h2.at0⟩

/-- the forms of one value -/
theorem Rep.tup_inv {xs : List D} (h : Rep K H Z n v (.tup xs) F) : ∃ a ys, v = .ref a ∧ H a = some (.tup ys) ∧ Rs K H Z n ys xs F := by
  cases h with
  | tup e h1 h2 dj => cases h2; exact ⟨_, _, rfl, e, by simpa using h1⟩
theorem Rep.mk_tup {a : Addr} {ys : List V} {xs : List D} (e : H a = some (.tup ys)) (h : Rs K H Z n ys xs F) : Rep K H Z n (.ref a) (.tup xs) F := by
  have := Rs.tup e h .nil Dj.nil_r; simpa using this
theorem Rep.lst1_inv {xs : List D} (h : Rep K H Z (n + 1) v (.lst xs) F) : ∃ a ys G, v = .ref a ∧ F = a :: G ∧ H a = some (.lst ys) ∧ Rs K H Z n ys xs G ∧ a ∉ G := by
  cases h with
  | l1 e h1 h2 na dj => cases h2; exact ⟨_, _, _, rfl, by simp, e, h1, na⟩
theorem Rep.mk_lst1 {a : Addr} {ys : List V} {xs : List D} (e : H a = some (.lst ys)) (h : Rs K H Z n ys xs G) (na : a ∉ G) : Rep K H Z (n + 1) (.ref a) (.lst xs) (a :: G) := by
  have := Rs.l1 e h .nil na Dj.nil_r; simpa using this
theorem Rep.lst0_inv {xs : List D} (h : Rep K H Z 0 v (.lst xs) F) : ∃ a ys, v = .ref a ∧ H a = some (.lst ys) ∧ Z a ∧ Rs K H Z 0 ys xs [] := by
  cases h with
  | l0 f z h1 h2 => exact ⟨_, _, rfl, f, z, h1⟩
theorem Rep.scr_inv {ns : List Int} (h : Rep K H Z n v (.scr ns) F) : ∃ a, v = .ref a ∧ F = [] ∧ SqS K H a (ns.map V.int) := by
  cases h with
  | scr f h2 => cases h2; exact ⟨_, rfl, rfl, f⟩
theorem Rep.int_inv {i : Int} (h : Rep K H Z n v (.int i) F) : v = .int i ∧ F = [] := by cases h with | int _ h => cases h; exact ⟨rfl, rfl⟩
theorem Rep.str_inv {i : Str} (h : Rep K H Z n v (.str i) F) : v = .str i ∧ F = [] := by cases h with | str _ h => cases h; exact ⟨rfl, rfl⟩
theorem Rep.bl_inv {i : Bool} (h : Rep K H Z n v (.bl i) F) : v = .bl i ∧ F = [] := by cases h with | bl _ h => cases h; exact ⟨rfl, rfl⟩
theorem Rep.non_inv (h : Rep K H Z n v .non F) : v = .non ∧ F = [] := by cases h with | non h => cases h; exact ⟨rfl, rfl⟩
theorem Rep.dK1_inv {kvs : List (Key × D)} (h : Rep K H Z (n + 1) v (.dK kvs) F) : ∃ a ps G, v = .ref a ∧ F = a :: G ∧ H a = some (.dK ps) ∧ ps.map (·.1) = kvs.map (·.1) ∧ Rs K H Z n (ps.map (·.2)) (kvs.map (·.2)) G ∧ a ∉ G := by
  cases h with
  | k1 e ek h1 h2 na dj => cases h2; exact ⟨_, _, _, rfl, by simp, e, ek, h1, na⟩
theorem Rep.mk_dK1 {a : Addr} {ps : List (Key × V)} {kvs : List (Key × D)} (e : H a = some (.dK ps)) (ek : ps.map (·.1) = kvs.map (·.1)) (h : Rs K H Z n (ps.map (·.2)) (kvs.map (·.2)) G) (na : a ∉ G) : Rep K H Z (n + 1) (.ref a) (.dK kvs) (a :: G) := by
  have := Rs.k1 e ek h .nil na Dj.nil_r; simpa using this
theorem Rep.dK0_inv {kvs : List (Key × D)} (h : Rep K H Z 0 v (.dK kvs) F) : ∃ a ps, v = .ref a ∧ H a = some (.dK ps) ∧ ps.map (·.1) = kvs.map (·.1) ∧ Rs K H Z 0 (ps.map (·.2)) (kvs.map (·.2)) [] := by
  cases h with
  | k0 e z ek h1 h2 => exact ⟨_, _, rfl, e, ek, h1⟩
theorem Rep.dT1_inv {kvs : List (List Key × D)} (h : Rep K H Z (n + 1) v (.dT kvs) F) : ∃ a ps G, v = .ref a ∧ F = a :: G ∧ H a = some (.dT ps) ∧ ps.map (·.1) = kvs.map (·.1) ∧ Rs K H Z n (ps.map (·.2)) (kvs.map (·.2)) G ∧ a ∉ G := by
  cases h with
  | t1 e ek h1 h2 na dj => cases h2; exact ⟨_, _, _, rfl, by simp, e, ek, h1, na⟩
theorem Rep.mk_dT1 {a : Addr} {ps : List (List Key × V)} {kvs : List (List Key × D)} (e : H a = some (.dT ps)) (ek : ps.map (·.1) = kvs.map (·.1)) (h : Rs K H Z n (ps.map (·.2)) (kvs.map (·.2)) G) (na : a ∉ G) : Rep K H Z (n + 1) (.ref a) (.dT kvs) (a :: G) := by
  have := Rs.t1 e ek h .nil na Dj.nil_r; simpa using this
theorem Rep.dT0_inv {kvs : List (List Key × D)} (h : Rep K H Z 0 v (.dT kvs) F) : ∃ a ps, v = .ref a ∧ H a = some (.dT ps) ∧ ps.map (·.1) = kvs.map (·.1) ∧ Rs K H Z 0 (ps.map (·.2)) (kvs.map (·.2)) [] := by
  cases h with
  | t0 e z ek h1 h2 => exact ⟨_, _, rfl, e, ek, h1⟩

/-- level 0, item by item -/
theorem Rs.at {i : Nat} (h : Rs K H Z 0 vs ds F) (e : ds[i]? = some d) : ∃ v, vs[i]? = some v ∧ Rep K H Z 0 v d [] := by
  induction i generalizing vs ds F with
  | zero =>
    cases ds with
    | nil => cases e
    | cons x r =>
      cases vs with
      | nil => have := h.length; cases this
      | cons w ws => cases e; exact ⟨w, rfl, h.cons0_inv.1⟩
  | succ i ih =>
    cases ds with
    | nil => cases e
    | cons x r =>
      cases vs with
      | nil => have := h.length; cases this
      | cons w ws => exact ih h.cons0_inv.2 e
theorem Rs.atV {i : Nat} (h : Rs K H Z 0 vs ds F) (e : vs[i]? = some v) : ∃ d, ds[i]? = some d ∧ Rep K H Z 0 v d [] := by
  have hl := h.length
  have hi : i < vs.length := (List.getElem?_eq_some_iff.mp e).1
  obtain ⟨w, e2, r⟩ := h.at (i := i) (d := ds[i]'(by omega)) (by simp [hl ▸ hi])
  rw [e] at e2
  cases e2
  exact ⟨_, by simp [hl ▸ hi], r⟩
theorem Rs.append0 (h : Rs K H Z 0 vs ds F) (r : Rs K H Z 0 ws es G) : Rs K H Z 0 (vs ++ ws) (ds ++ es) [] := by
  induction vs generalizing ds F with
  | nil => cases ds with
    | nil => exact r.at0
    | cons => have := h.length; cases this
  | cons v vs ih => cases ds with
    | nil => have := h.length; cases this
    | cons d ds => exact .cons0 h.cons0_inv.1 (ih h.cons0_inv.2)
theorem Rs.take0 (h : Rs K H Z 0 vs ds F) (i : Nat) : Rs K H Z 0 (vs.take i) (ds.take i) [] := by
  induction vs generalizing ds F i with
  | nil => cases ds with
    | nil => simp; exact .nil
    | cons => have := h.length; cases this
  | cons v vs ih => cases ds with
    | nil => have := h.length; cases this
    | cons d ds => cases i with
      | zero => exact .nil
      | succ i => exact .cons0 h.cons0_inv.1 (ih h.cons0_inv.2 i)
theorem Rs.drop0 (h : Rs K H Z 0 vs ds F) (i : Nat) : Rs K H Z 0 (vs.drop i) (ds.drop i) [] := by
  induction vs generalizing ds F i with
  | nil => cases ds with
    | nil => simp; exact .nil
    | cons => have := h.length; cases this
  | cons v vs ih => cases ds with
    | nil => have := h.length; cases this
    | cons d ds => cases i with
      | zero => exact h.at0
      | succ i => exact ih h.cons0_inv.2 i
theorem Rs.set0 (h : Rs K H Z 0 vs ds F) (i : Nat) (r : Rep K H Z 0 v d []) : Rs K H Z 0 (vs.set i v) (ds.set i d) [] := by
  induction vs generalizing ds F i with
  | nil => cases ds with
    | nil => simp; exact .nil
    | cons => have := h.length; cases this
  | cons v vs ih => cases ds with
    | nil => have := h.length; cases this
    | cons d ds => cases i with
      | zero => exact .cons0 r h.cons0_inv.2
      | succ i => exact .cons0 h.cons0_inv.1 (ih h.cons0_inv.2 i)
theorem Rs.of_at (hl : vs.length = ds.length) (h : ∀ (i : Nat) v d, vs[i]? = some v → ds[i]? = some d → Rep K H Z 0 v d []) : Rs K H Z 0 vs ds [] := by
  induction vs generalizing ds with -- by the values
  | nil => cases ds with
    | nil => exact .nil
    | cons => cases hl
  | cons v vs ih => cases ds with
    | nil => cases hl
    | cons d ds => exact .cons0 (h 0 v d rfl rfl) (ih (by simpa using hl) fun i => h (i + 1))
theorem Rs.rev0 (h : Rs K H Z 0 vs ds F) : Rs K H Z 0 vs.reverse ds.reverse [] := by
  induction vs generalizing ds F with
  | nil => cases ds with
    | nil => exact .nil
    | cons => have := h.length; cases this
  | cons v vs ih => cases ds with
    | nil => have := h.length; cases this
    | cons d ds =>
      simp only [List.reverse_cons]
      exact (ih h.cons0_inv.2).append0 (.cons0 h.cons0_inv.1 .nil)
theorem Rs.rep0 (h : Rs K H Z 0 vs ds F) : ∀ k : Nat, Rs K H Z 0 (List.replicate k vs).flatten (List.replicate k ds).flatten []
  | 0 => .nil
  | k + 1 => by
    simp only [List.replicate_succ, List.flatten_cons]
    exact h.append0 (h.rep0 k)
/-- ints alone -/
theorem Rs.ints : ∀ {ns : List Int} {vs : List V}, Rs K H Z n vs (ns.map D.int) F → vs = ns.map V.int
  | [], vs, h => by obtain ⟨e, _⟩ := h.nil_inv; exact e
  | i :: ns, vs, h => by
    cases h with
    | int _ h => rw [List.map_cons, ← Rs.ints h]
theorem Rs.of_ints : ∀ (ns : List Int), Rs K H Z n (ns.map V.int) (ns.map D.int) []
  | [] => .nil
  | i :: ns => .int i (Rs.of_ints ns)
end

/-! ### data as the library has it -/
mutual
def py : D → PyData
  | .non => .none
  | .bl b => .bool b
  | .int i => .int i
  | .str x => .str x
  | .tup xs => .tuple (pys xs)
  | .lst xs => .list (pys xs)
  | .dK _ => .dict []
  | .dT _ => .dict []
  | .scr _ => .dict []
def pys : List D → List PyData
  | [] => []
  | x :: xs => py x :: pys xs
end
mutual
/-- no dict within -/
def plain : D → Bool
  | .non | .bl _ | .int _ | .str _ => true
  | .tup xs => plains xs
  | .lst xs => plains xs
  | _ => false
def plains : List D → Bool
  | [] => true
  | x :: xs => plain x && plains xs
end
theorem Rs.dp {K : PySem.W.Frag} {H : Hp} {Z : Addr → Prop} {n : Nat} {vs : List V} {ds : List D} {F : List Addr} (h : Rs K H Z n vs ds F) : plains ds = true → DpAll K H vs (pys ds) := by
  induction h with
  | nil => intro _; exact .nil
  | non _ ih => intro e; simp [plains, plain] at e; exact .cons .non (ih e)
  | bl b _ ih => intro e; simp [plains, plain] at e; exact .cons (.bl b) (ih e)
  | int b _ ih => intro e; simp [plains, plain] at e; exact .cons (.int b) (ih e)
  | str b _ ih => intro e; simp [plains, plain] at e; exact .cons (.str b) (ih e)
  | tup e _ _ dj ih1 ih2 => intro q; simp [plains, plain] at q; exact .cons (.tup (SqT.of e) (ih1 q.1)) (ih2 q.2)
  | scr => intro q; simp [plains, plain] at q
  | l0 e z _ _ ih1 ih2 => intro q; simp [plains, plain] at q; exact .cons (.lst (.inl (.inl e)) (ih1 q.1)) (ih2 q.2)
  | l1 e _ _ na dj ih1 ih2 => intro q; simp [plains, plain] at q; exact .cons (.lst (.inl (.inl e)) (ih1 q.1)) (ih2 q.2)
  | k0 => intro q; simp [plains, plain] at q
  | k1 => intro q; simp [plains, plain] at q
  | t0 => intro q; simp [plains, plain] at q
  | t1 => intro q; simp [plains, plain] at q
theorem Rep.dp {K : PySem.W.Frag} {H : Hp} {Z : Addr → Prop} {n : Nat} {v : V} {d : D} {F : List Addr} (h : Rep K H Z n v d F) (e : plain d = true) : Dp K H v (py d) := by
  have := Rs.dp h (by simp [plains, e])
  cases this with
  | cons h _ => exact h
end DL
end
section
set_option Elab.async false
set_option linter.all false
set_option maxRecDepth 100000
set_option maxHeartbeats 3900000
/-! DL2: the small language over slots, its meaning over plain data. -/
namespace DL
open L2 PySem PySem.Spec PyProof.Rows

/-- an exception: its class's number, its field -/
structure Ex where
  c : Nat
  a : Option D

/-- what a slot holds, what an expression gives: nothing; data that is only read; data whose root is owned (its children to depth n, too); a lent parameter; one that is locked (true: a lent parameter); the slot i itself, not copied; an exception -/
inductive Sl where
  | no | v (d : D) | o (n : Nat) (d : D) | p (n : Nat) (d : D) | w (b : Bool) (n : Nat) (d : D) | q (i : Nat) | x (e : Ex)

inductive Ty where
  | int | bool | str | tuple | list | dict
  deriving DecidableEq
def Ty.nm : Ty → String
  | .int => "int" | .bool => "bool" | .str => "str" | .tuple => "tuple" | .list => "list" | .dict => "dict"

inductive Pr where
  | add | sub | mul | fdiv | mod | pow | neg | nt
  | eq | ne | lt | le | gt | ge | is_ | isn | in_ | nin
  | idx | slc (a b : Bool) | rev
  | len | abs | min2 | max2 | minL | maxL | sum | all_ | any_
  | int_ | bool_ | str_ | repr_ | sorted | tuple | list
  | tupD | lstD | dK0 | dT0 | dKD (ks : List Str) | dKN (ks : List Str)
  | cnt | index | isi (ts : List Ty) | lrng (n : Nat)

inductive Tg where
  | nm (i : Nat) | tp (ts : List Tg)
inductive SrcK where
  | seq | rng | enum | zip | down | chr

inductive RE where
  | lit (d : D) | glb (g : Nat) | var (i : Nat) | mv (i : Nat) | pk (i : Nat) | pop (i : Nat) | fld (i k : Nat)
  | prim (p : Pr) (es : List RE)
  | chn (p q : Pr) (a b c : RE)
  | bop (isAnd : Bool) (es : List RE)
  | ifx (c a b : RE)
  | call (f : Nat) (es : List RE)
  | comp (own : List Nat) (tgt : Tg) (k : SrcK) (es : List RE) (ifs : List RE) (elt : RE)

inductive RS where
  | asg (t : Tg) (e : RE) | par (ts : List Nat) (es : List RE)
  | setx (i : Nat) (ix e : RE) | app (i : Nat) (e : RE) | ext (i : Nat) (e : RE)
  | exp (e : RE) | ret (e : RE) | ret0 | pas
  | iff (c : RE) (a b : List RS)
  | for_ (tgt : Tg) (k : SrcK) (es : List RE) (body : List RS)
  | whl (c : RE) (body : List RS)
  | rse (c : Nat) (e : Option RE)
  | tri (body : List RS) (hs : List (Nat × Option Nat × List RS))

/-- a def's promise over data: the arguments; what comes (and the arguments behind it); what is raised -/
structure Ctr where
  run : List Sl → (Sl → List Sl → Prop) → (Ex → List Sl → Prop) → Prop
  mono : ∀ {ss Q Q' E E'}, run ss Q E → (∀ s o, Q s o → Q' s o) → (∀ e o, E e o → E' e o) → run ss Q' E'

/-! ### data -/
/-- an operand: only read or a value of its own; owned by a slot to depth n -/
inductive Rz where
  | fr (d : D) | ow (n : Nat) (d : D)
def Rz.dat : Rz → D
  | .fr d => d
  | .ow _ d => d
def Sl.rz (env : List Sl) : Sl → Option Rz
  | .v d => some (.fr d)
  | .o _ d => some (.fr d)
  | .q i => match env[i]? with
    | some (.v d) => some (.fr d)
    | some (.o n d) => some (.ow n d)
    | some (.p n d) => some (.ow n d)
    | some (.w _ n d) => some (.ow n d)
    | _ => none
  | _ => none
def rzs (env : List Sl) : List Sl → Option (List Rz)
  | [] => some []
  | s :: r => match s.rz env, rzs env r with
    | some z, some zs => some (z :: zs)
    | _, _ => none
def Rz.flat : Rz → Bool
  | .fr _ => true
  | .ow 0 (.lst _) => true
  | .ow 0 (.dK _) => true
  | .ow 0 (.dT _) => true
  | _ => false
def Rz.isFr : Rz → Bool
  | .fr _ => true
  | _ => false
/-- nothing that is only read stands within, at depth n -/
def immR : D → Bool
  | .lst xs => imms xs
  | d => imm d

def tru : D → Option Bool
  | .non => some false
  | .bl b => some b
  | .int i => some (i != 0)
  | .str x => some (decide (x.length ≤ sizeLine) && ((x.length : Int) != 0))
  | .lst xs => some (!xs.isEmpty)
  | .tup xs => some (!xs.isEmpty)
  | .dK xs => some (!xs.isEmpty)
  | .dT _ => none
  | .scr _ => none
/-- texts of any length are not asked for their truth -/
def truQ (d : D) (Q : Bool → Prop) : Prop := match d with
  | .non => Q false
  | .bl b => Q b
  | .int i => Q (i != 0)
  | .str x => x.length ≤ sizeLine ∧ Q ((x.length : Int) != 0)
  | .lst xs => Q (!xs.isEmpty)
  | .tup xs => Q (!xs.isEmpty)
  | .dK xs => Q (!xs.isEmpty)
  | .dT _ => False
  | .scr _ => False

/-! ### the operations -/
def pAdd : D → D → (D → Prop) → Prop
  | .int i, .int j, Q => Q (.int (i + j))
  | .str x, .str y, Q => x.length + y.length ≤ sizeLine ∧ Q (.str (x ++ y))
  | .tup xs, .tup ys, Q => xs.length + ys.length ≤ sizeLine ∧ Q (.tup (xs ++ ys))
  | .lst xs, .lst ys, Q => xs.length + ys.length ≤ sizeLine ∧ Q (.lst (xs ++ ys))
  | _, _, _ => False
def MulOk (i j : Int) : Prop := CMul i j ∨ CMulW i j
def pMul : D → D → (D → Prop) → Prop
  | .int i, .int j, Q => MulOk i j ∧ Q (.int (i * j))
  | .lst xs, .int k, Q => -(2 ^ 63) ≤ k ∧ k < 2 ^ 63 ∧ xs.length * k.toNat ≤ sizeLine ∧ Q (.lst (List.replicate k.toNat xs).flatten)
  | _, _, _ => False
def p2I (C : Int → Int → Prop) (g : Int → Int → D) : D → D → (D → Prop) → Prop
  | .int i, .int j, Q => C i j ∧ Q (g i j)
  | _, _, _ => False
/-- may these be compared? -/
def eqOk (x y : D) : Bool := (match x, y with | .str _, .str _ => true | _, _ => false) || (plain x && plain y && SeqAt.shaped (py x) && SeqAt.shaped (py y))
def pEq (neg : Bool) (x y : D) (Q : D → Prop) : Prop :=
  eqOk x y = true ∧ Q (.bl (if neg then !(PyData.eqv (py x) (py y)) else PyData.eqv (py x) (py y)))
/-- t < u of lists of ints -/
def pLt : D → D → (D → Prop) → Prop
  | .int i, .int j, Q => Q (.bl (decide (i < j)))
  | .str x, .str y, Q => Q (.bl (decide (x.cps.toList < y.cps.toList)))
  | .tup xs, .tup ys, Q => ∃ ns ms : List Int, xs = ns.map D.int ∧ ys = ms.map D.int ∧ Q (.bl (HT.lexLt ns ms))
  | _, _, _ => False
def isNon : D → Bool
  | .non => true
  | _ => false
def pIs (neg : Bool) (x y : D) (Q : D → Prop) : Prop := match y with
  | .non => Q (.bl (if neg then !isNon x else isNon x))
  | .bl b => match x with
    | .bl a => Q (.bl (if neg then !decide (a = b) else decide (a = b)))
    | _ => False
  | _ => False
def keyOf : D → Option Key
  | .int i => some (.inl i)
  | .str x => some (.inr x)
  | _ => none
def keysOf : List D → Option (List Key)
  | [] => some []
  | d :: r => match keyOf d, keysOf r with
    | some k, some ks => some (k :: ks)
    | _, _ => none
def look {κ : Type} [DecidableEq κ] (kvs : List (κ × D)) (k : κ) : Option D := (kvs.find? fun kv => decide (kv.1 = k)).map (·.2)
def putD {κ : Type} [DecidableEq κ] (kvs : List (κ × D)) (k : κ) (v : D) : List (κ × D) :=
  if (kvs.any fun q => decide (q.1 = k)) = true then kvs.map (fun q => if q.1 = k then (q.1, v) else q) else kvs ++ [(k, v)]
def pIn (neg : Bool) : D → D → (D → Prop) → Prop
  | x, .lst ys, Q => plain x = true ∧ plains ys = true ∧ SeqAt.shaped (py x) = true ∧ SeqAt.shaped (.list (pys ys)) = true ∧ Q (.bl (if neg then !((pys ys).any fun z => PyData.eqv z (py x)) else (pys ys).any fun z => PyData.eqv z (py x)))
  | x, .tup ys, Q => flatD x = true ∧ ys.all flatD = true ∧ Q (.bl (if neg then !((pys ys).any fun z => PyData.eqv z (py x)) else (pys ys).any fun z => PyData.eqv z (py x)))
  | x, .dK kvs, Q => ∃ k, keyOf x = some k ∧ Q (.bl (if neg then !(look kvs k).isSome else (look kvs k).isSome))
  | .tup xs, .dT kvs, Q => ∃ k, keysOf xs = some k ∧ Q (.bl (if neg then !(look kvs k).isSome else (look kvs k).isSome))
  | _, _, _ => False
where flatD : D → Bool
  | .non | .bl _ | .int _ | .str _ => true
  | _ => false
def pIdx : D → D → (D → Prop) → Prop
  | .lst xs, .int i, Q => ∃ d, atI xs i = some d ∧ Q d
  | .tup xs, .int i, Q => ∃ d, atI xs i = some d ∧ Q d
  | .str z, .int i, Q => z.length ≤ sizeLine ∧ ∃ c, atI z.cps.toList i = some c ∧ Q (.str ⟨#[c]⟩)
  | .dK kvs, x, Q => ∃ k d, keyOf x = some k ∧ look kvs k = some d ∧ Q d
  | .dT kvs, .tup xs, Q => ∃ k d, keysOf xs = some k ∧ look kvs k = some d ∧ Q d
  | _, _, _ => False
def cut (xs : List D) (lo hi : Option Int) : List D := (xs.drop (HT.sIx xs.length 0 lo)).take (HT.sIx xs.length xs.length hi - HT.sIx xs.length 0 lo)
def pSl (lo hi : Option Int) : D → (D → Prop) → Prop
  | .lst xs, Q => Q (.lst (cut xs lo hi))
  | .tup xs, Q => Q (.tup (cut xs lo hi))
  | .scr ns, Q => Q (.lst (cut (ns.map D.int) lo hi))
  | _, _ => False
def pLen : D → (D → Prop) → Prop
  | .lst xs, Q => Q (.int xs.length)
  | .tup xs, Q => Q (.int xs.length)
  | .str x, Q => x.length ≤ sizeLine ∧ Q (.int x.length)
  | .dK xs, Q => Q (.int xs.length)
  | .dT xs, Q => Q (.int xs.length)
  | .scr ns, Q => Q (.int ns.length)
  | _, _ => False
/-- the ints of a list -/
def pInts (d : D) (k : List Int → Prop) : Prop := match d with
  | .lst xs => ∃ ns : List Int, xs = ns.map D.int ∧ k ns
  | _ => False
def pBls (d : D) (k : List Bool → Prop) : Prop := match d with
  | .lst xs => ∃ bs : List Bool, xs = bs.map D.bl ∧ k bs
  | _ => False
def isTy (d : D) : Ty → Bool
  | .int => match d with | .int _ => true | .bl _ => true | _ => false
  | .bool => match d with | .bl _ => true | _ => false
  | .str => match d with | .str _ => true | _ => false
  | .tuple => match d with | .tup _ => true | _ => false
  | .list => match d with | .lst _ => true | _ => false
  | .dict => match d with | .dK _ => true | .dT _ => true | _ => false
def pRepr (d : D) (Q : D → Prop) : Prop := plain d = true ∧ (py d).showable = true ∧ (py d).depth ≤ 60 ∧ (py d).shown.length ≤ sizeLine ∧ Q (.str (py d).shown)
def rngD (a b : Int) : List D := (List.range (b - a).toNat).map fun i => D.int (a + (i : Nat))

/-- what an operation gives -/
def pw (p : Pr) (ds : List D) (Q : D → Prop) : Prop := match p, ds with
  | .add, [x, y] => pAdd x y Q
  | .sub, [x, y] => p2I (fun _ _ => True) (fun i j => .int (i - j)) x y Q
  | .mul, [x, y] => pMul x y Q
  | .fdiv, [x, y] => p2I CDivW (fun i j => .int (i / j)) x y Q
  | .mod, [x, y] => p2I (fun _ j => 0 < j) (fun i j => .int (i % j)) x y Q
  | .pow, [x, y] => p2I CPow (fun i j => .int (i ^ j.toNat)) x y Q
  | .neg, [.int i] => Q (.int (-i))
  | .nt, [x] => truQ x fun b => Q (.bl (!b))
  | .eq, [x, y] => pEq false x y Q
  | .ne, [x, y] => pEq true x y Q
  | .lt, [x, y] => pLt x y Q
  | .le, [x, y] => p2I (fun _ _ => True) (fun i j => .bl (decide (i ≤ j))) x y Q
  | .gt, [x, y] => p2I (fun _ _ => True) (fun i j => .bl (decide (j < i))) x y Q
  | .ge, [x, y] => p2I (fun _ _ => True) (fun i j => .bl (decide (j ≤ i))) x y Q
  | .is_, [x, y] => pIs false x y Q
  | .isn, [x, y] => pIs true x y Q
  | .in_, [x, y] => pIn false x y Q
  | .nin, [x, y] => pIn true x y Q
  | .idx, [x, y] => pIdx x y Q
  | .slc false false, [x] => pSl none none x Q
  | .slc true false, [x, .int i] => pSl (some i) none x Q
  | .slc false true, [x, .int j] => pSl none (some j) x Q
  | .slc true true, [x, .int i, .int j] => pSl (some i) (some j) x Q
  | .rev, [.lst xs] => Q (.lst xs.reverse)
  | .len, [x] => pLen x Q
  | .abs, [.int i] => Q (.int (if i < 0 then -i else i))
  | .min2, [.int i, .int j] => Q (.int (if j < i then j else i))
  | .max2, [.int i, .int j] => Q (.int (if j > i then j else i))
  | .minL, [x] => pInts x fun ns => ∃ h : 0 < ns.length, ∀ m, m ∈ ns → (∀ y, y ∈ ns → m ≤ y) → Q (.int m)
  | .maxL, [x] => pInts x fun ns => ∃ h : 0 < ns.length, ∀ m, m ∈ ns → (∀ y, y ∈ ns → y ≤ m) → Q (.int m)
  | .sum, [x] => pInts x fun ns => Q (.int ns.sum)
  | .all_, [x] => pBls x fun bs => Q (.bl (bs.all id))
  | .any_, [x] => pBls x fun bs => Q (.bl (bs.any id))
  | .int_, [.int i] => Q (.int i)
  | .int_, [.bl b] => Q (.int (if b then 1 else 0))
  | .bool_, [.int i] => Q (.bl (i != 0))
  | .bool_, [.bl b] => Q (.bl b)
  | .str_, [.int i] => i.natAbs.log2 < 1920 ∧ Q (.str (toString i))
  | .str_, [.str x] => Q (.str x)
  | .repr_, [x] => pRepr x Q
  | .tuple, [.lst xs] => Q (.tup xs)
  | .tuple, [.tup xs] => Q (.tup xs)
  | .list, [.lst xs] => Q (.lst xs)
  | .list, [.tup xs] => Q (.lst xs)
  | .tupD, xs => xs.length ≤ sizeLine ∧ Q (.tup xs)
  | .lstD, xs => xs.length ≤ sizeLine ∧ Q (.lst xs)
  | .dK0, [] => Q (.dK [])
  | .dT0, [] => Q (.dT [])
  | .dKD ks, xs => ks.length = xs.length ∧ ks.Nodup ∧ ks.length ≤ 15 ∧ Q (.dK ((ks.map Sum.inr).zip xs))
  | .isi ts, [x] => Q (.bl (ts.any (isTy x)))
  | .lrng 1, [.int j] => -(2 ^ 62) ≤ j ∧ j < 2 ^ 62 ∧ (j - 0).toNat ≤ 2 ^ 24 ∧ Q (.lst (rngD 0 j))
  | .lrng 2, [.int i, .int j] => (-(2 ^ 62) ≤ i ∧ i < 2 ^ 62 ∧ -(2 ^ 62) ≤ j ∧ j < 2 ^ 62 ∧ (j - i).toNat ≤ 2 ^ 24) ∧ Q (.lst (rngD i j))
  | .sorted, [x] => match x with
    | .lst xs => (∃ ns : List Int, xs = ns.map D.int ∧ ∀ ms : List Int, ms.Perm ns → ms.Pairwise (· ≤ ·) → Q (.lst (ms.map D.int))) ∨
        ∃ ns : List (Int × Int), xs = ns.map (fun p => D.tup [.int p.1, .int p.2]) ∧ ∀ ms : List (Int × Int), ms.Perm ns → ms.Pairwise (fun a b => a.1 < b.1 ∨ (a.1 = b.1 ∧ a.2 ≤ b.2)) → Q (.lst (ms.map (fun p => D.tup [.int p.1, .int p.2])))
    | _ => False
  | _, _ => False
/-- operations that give a new list or dict -/
def fresh (p : Pr) (d : D) : Bool := match p with
  | .lstD | .dK0 | .dT0 | .dKD _ | .list | .sorted | .lrng _ | .rev => true
  | .slc _ _ | .add | .mul => match d with | .lst _ => true | _ => false
  | _ => false
def isDisp : Pr → Bool
  | .tupD | .lstD | .dKD _ | .dKN _ => true
  | _ => false
/-- may this come of such operands? -/
def okr (p : Pr) (zs : List Rz) (d : D) : Bool := if isDisp p then zs.all Rz.isFr else zs.all Rz.flat || (if fresh p d then immR d else imm d)
def mkR (p : Pr) (d : D) : Sl := if fresh p d then .o 0 d else .v d
/-- a dict that owns what stands in it -/
def nestK : Pr → Option (List Str)
  | .dKN ks => some ks
  | _ => none
def nestDs : List Sl → Option (List D)
  | [] => some []
  | .v d :: r => if imm d then (nestDs r).map (d :: ·) else none
  | .o 0 d :: r => (nestDs r).map (d :: ·)
  | _ => none
def nestQ (ks : List Str) (ss : List Sl) (Q : Sl → Prop) : Prop := match nestDs ss with
  | some ds => ks.length = ds.length ∧ ks.Nodup ∧ ks.length ≤ 15 ∧ Q (.o 1 (.dK ((ks.map Sum.inr).zip ds)))
  | none => False
def primQ (p : Pr) (env : List Sl) (ss : List Sl) (Q : Sl → Prop) : Prop := match nestK p with
  | some ks => nestQ ks ss Q
  | none => primQ0 p env ss Q
where primQ0 (p : Pr) (env : List Sl) (ss : List Sl) (Q : Sl → Prop) : Prop := match rzs env ss with
  | some zs => pw p (zs.map Rz.dat) fun d => okr p zs d = true ∧ Q (mkR p d)
  | none => False

theorem nest_nd {p : Pr} (h : isDisp p = false) : nestK p = none := by cases p <;> first | rfl | cases h
theorem primQ_eq {p : Pr} {env ss : List Sl} {Q : Sl → Prop} (h : nestK p = none) : primQ p env ss Q = primQ.primQ0 p env ss Q := by unfold primQ; rw [h]

/-! ### slots -/
/-- a slot that may be stored to -/
def Sl.free : Sl → Bool
  | .no | .v _ | .o _ _ => true
  | _ => false
def setS (env : List Sl) (i : Nat) (s : Sl) : Option (List Sl) := match env[i]? with
  | some t => if t.free then some (env.set i s) else none
  | none => none
mutual
/-- data, to a target -/
def bindT : Tg → D → List Sl → Option (List Sl)
  | .nm i, d, env => setS env i (.v d)
  | .tp ts, d, env => match d with
    | .tup ds => bindTs ts ds env
    | .lst ds => bindTs ts ds env
    | _ => none
def bindTs : List Tg → List D → List Sl → Option (List Sl)
  | [], [], env => some env
  | t :: ts, d :: ds, env => match bindT t d env with
    | some e => bindTs ts ds e
    | none => none
  | _, _, _ => none
end
/-- the data of a value of its own -/
def Sl.val : Sl → Option D
  | .v d => some d
  | .o _ d => some d
  | _ => none
def asgQ (t : Tg) (s : Sl) (env : List Sl) (Q : List Sl → Prop) : Prop := match t with
  | .nm i => match s.val with
    | some _ => match setS env i s with | some e => Q e | none => False
    | none => False
  | t => match s.val with
    | some d => match bindT t d env with | some e => Q e | none => False
    | none => False
/-- slots owned are locked -/
def lockS (env : List Sl) : Sl → List Sl
  | .q i => match env[i]? with
    | some (.o n d) => env.set i (.w false n d)
    | some (.p n d) => env.set i (.w true n d)
    | _ => env
  | _ => env
def locks (env : List Sl) (ss : List Sl) : List Sl := ss.foldl lockS env
/-- the slots that ss names as they were in env -/
def unlockS (env : List Sl) (e : List Sl) : Sl → List Sl
  | .q i => match env[i]? with
    | some (.o n d) => e.set i (.o n d)
    | some (.p n d) => e.set i (.p n d)
    | _ => e
  | _ => e
def unlocks (env e : List Sl) (ss : List Sl) : List Sl := ss.foldl (unlockS env) e
/-- the items that are walked -/
def seqOf : D → Option (List D)
  | .lst xs => some xs
  | .tup xs => some xs
  | _ => none
def enumD (xs : List D) : List D := xs.mapIdx fun i x => .tup [.int (i : Nat), x]
def dwnD (a b : Int) : List D := (List.range (a - b).toNat).map fun i => D.int (a - (i : Nat))
def chrD (x : Str) : List D := x.cps.toList.map fun c => D.str ⟨#[c]⟩
def srcD (k : SrcK) (ds : List D) (Q : List D → Prop) : Prop := match k, ds with
  | .seq, [d] => match seqOf d with | some xs => Q xs | none => False
  | .rng, [.int j] => -(2 ^ 62) ≤ j ∧ j < 2 ^ 62 ∧ Q (rngD 0 j)
  | .rng, [.int i, .int j] => (-(2 ^ 62) ≤ i ∧ i < 2 ^ 62 ∧ -(2 ^ 62) ≤ j ∧ j < 2 ^ 62) ∧ Q (rngD i j)
  | .enum, [d] => match seqOf d with | some xs => Q (enumD xs) | none => False
  | .zip, [d, e] => match seqOf d, seqOf e with | some xs, some ys => Q (List.zipWith (fun x y => .tup [x, y]) xs ys) | _, _ => False
  | .down, [.int i, .int j, .int k] => (k = -1 ∧ -(2 ^ 62) ≤ i ∧ i < 2 ^ 62 ∧ -(2 ^ 62) ≤ j ∧ j < 2 ^ 62) ∧ Q (dwnD i j)
  | .chr, [.str x] => Q (chrD x)
  | _, _ => False
def srcQ (k : SrcK) (env : List Sl) (ss : List Sl) (Q : List D → Prop) : Prop := match rzs env ss with
  | some zs => zs.all Rz.flat = true ∧ srcD k (zs.map Rz.dat) Q
  | none => False

/-- a test's answer -/
def tstQ (s : Sl) (env : List Sl) (Q : Bool → Prop) : Prop := match s.rz env with
  | some z => truQ z.dat Q
  | none => False

/-! ### calls -/
/-- an argument; a slot that is lent where len says so -/
def argS (env : List Sl) : Bool → Sl → Option Sl
  | false, .v d => some (.v d)
  | false, .o _ d => some (.v d)
  | false, .q i => match env[i]? with
    | some (.v d) => some (.v d)
    | some (.o _ d) => some (.v d)
    | some (.p _ d) => some (.v d)
    | some (.w _ _ d) => some (.v d)
    | _ => none
  | true, .q i => match env[i]? with
    | some (.o n d) => some (.p n d)
    | some (.p n d) => some (.p n d)
    | _ => none
  | _, _ => none
/-- what was lent comes back -/
def outsOk : List Bool → List Sl → Bool
  | true :: ls, .p _ _ :: outs => outsOk ls outs
  | false :: ls, _ :: outs => outsOk ls outs
  | [], [] => true
  | _, _ => false
def argsS (env : List Sl) : List Bool → List Sl → Option (List Sl)
  | l :: ls, s :: ss => match argS env l s, argsS env ls ss with
    | some a, some r => some (a :: r)
    | _, _ => none
  | [], [] => some []
  | _, _ => none
/-- the slots that are lent -/
def lentOf : List Bool → List Sl → List Nat
  | true :: ls, .q i :: ss => i :: lentOf ls ss
  | _ :: ls, _ :: ss => lentOf ls ss
  | _, _ => []
def namedOf : List Bool → List Sl → List Nat
  | false :: ls, .q i :: ss => i :: namedOf ls ss
  | _ :: ls, _ :: ss => namedOf ls ss
  | _, _ => []
/-- a slot owned is named, not lent -/
def borrows (env : List Sl) : List Bool → List Sl → Bool
  | false :: ls, .q i :: ss => (match env[i]? with | some (.v _) => false | _ => true) || borrows env ls ss
  | _ :: ls, _ :: ss => borrows env ls ss
  | _, _ => false
def backS (env : List Sl) (i : Nat) (s : Sl) : List Sl := match env[i]?, s with
  | some (.o _ _), .p n d => env.set i (.o n d)
  | some (.p _ _), .p n d => env.set i (.p n d)
  | _, _ => env
def backs (env : List Sl) : List Bool → List Sl → List Sl → List Sl
  | true :: ls, .q i :: ss, s :: outs => backs (backS env i s) ls ss outs
  | _ :: ls, _ :: ss, _ :: outs => backs env ls ss outs
  | _, _, _ => env
/-- nothing only read stands within what is owned to depth n -/
def cleanN : Nat → D → Bool
  | 0, d => imm d
  | n + 1, .lst xs => cleans n xs
  | n + 1, .dK kvs => cleans n (kvs.map (·.2))
  | n + 1, .dT kvs => cleans n (kvs.map (·.2))
  | n + 1, d => imm d
where cleans : Nat → List D → Bool
  | _, [] => true
  | n, x :: xs => cleanN n x && cleans n xs
def Sl.clean : Sl → Bool
  | .v d => imm d
  | .o n d => cleanN (n + 1) d
  | .p n d => cleanN (n + 1) d
  | .no => true
  | _ => false
end DL
end
section
set_option Elab.async false
set_option linter.all false
set_option maxRecDepth 100000
set_option maxHeartbeats 3900000
/-! DL3: what must hold ahead of an expression, a block, so that .. (over plain data). -/
namespace DL
open L2 PySem PySem.Spec PyProof.Rows

abbrev Env' := List Sl
abbrev QE := Sl → Env' → Prop
abbrev QX := Ex → Env' → Prop
/-- the ends of a block -/
structure Ks where
  nx : Env' → Prop
  rt : QE
  ex : QX

/-- the text around: the defs' promises and which parameters they are lent, the module's constants, a class's field -/
structure Txt where
  ctr : Nat → Ctr
  len : Nat → List Bool
  cst : Nat → D
  sub : Nat → Nat → Bool

/-- the items of a comprehension -/
def compW (tgt : Tg) (own : List Nat) (ts : Env' → (Bool → Env' → Prop) → Prop) (el : Env' → QE → Prop) : List D → List D → Env' → (List D → Env' → Prop) → Prop
  | [], acc, env, K => K acc env
  | d :: r, acc, env, K => match bindT tgt d (own.foldl (fun e i => e.set i .no) env) with
    | some e1 => ts e1 fun b e2 => if b then el e2 fun s e3 => match s.val with
        | some x => acc.length < sizeLine ∧ compW tgt own ts el r (acc ++ [x]) e3 K
        | none => False
      else compW tgt own ts el r acc e2 K
    | none => False
/-- the slots of a comprehension may be taken -/
def ownOk (env : Env') (own : List Nat) : Bool := own.all fun i => match env[i]? with
  | some .no => true
  | some (.v _) => true
  | _ => false
def restore (env e : Env') (own : List Nat) : Env' := own.foldl (fun e i => match env[i]? with | some s => e.set i s | none => e) e

def callQ (T : Txt) (f : Nat) (env : Env') (ss : List Sl) (Q : QE) (X : QX) : Prop :=
  match argsS env (T.len f) ss with
  | none => False
  | some as => (lentOf (T.len f) ss).Nodup ∧ (∀ i ∈ lentOf (T.len f) ss, i ∉ namedOf (T.len f) ss) ∧
    (T.ctr f).run as (fun s outs => outsOk (T.len f) outs = true ∧ (borrows env (T.len f) ss = true → s.clean = true ∧ ∀ t ∈ outs, t.clean = true) ∧ Q s (backs env (T.len f) ss outs))
      (fun e outs => outsOk (T.len f) outs = true ∧ (borrows env (T.len f) ss = true → (∀ d, e.a = some d → imm d = true) ∧ ∀ t ∈ outs, t.clean = true) ∧ X e (backs env (T.len f) ss outs))

/-- a slot that may be named -/
def okPk (env : Env') (i : Nat) : Prop := match env[i]? with
  | some (.v _) => True
  | some (.o _ _) => True
  | some (.p _ _) => True
  | some (.w _ _ _) => True
  | _ => False
mutual
def wpE (T : Txt) : RE → Env' → QE → QX → Prop
  | .lit d, env, Q, _ => Q (.v d) env
  | .glb g, env, Q, _ => Q (.v (T.cst g)) env
  | .var i, env, Q, _ => match env[i]? with
    | some (.v d) => Q (.v d) env
    | some (.o _ d) => Q (.v d) (env.set i (.v d))
    | _ => False
  | .mv i, env, Q, _ => match env[i]? with
    | some (.v d) => Q (.v d) env
    | some (.o n d) => Q (.o n d) (env.set i .no)
    | _ => False
  | .pk i, env, Q, _ => okPk env i ∧ Q (.q i) env
  | .fld i k, env, Q, _ => match env[i]? with
    | some (.x e) => match e.a with
      | some d => e.c = k ∧ Q (.v d) env
      | none => False
    | _ => False
  | .pop i, env, Q, _ => match env[i]? with
    | some (.o n (.lst xs)) => popQ n xs fun s ys => Q s (env.set i (.o n (.lst ys)))
    | some (.p n (.lst xs)) => popQ n xs fun s ys => Q s (env.set i (.p n (.lst ys)))
    | _ => False
  | .prim p es, env, Q, X => wpEs T es env (fun ss e1 => primQ p e1 ss fun s => Q s e1) X
  | .chn p q a b c, env, Q, X => wpE T a env (fun sa e1 => wpE T b e1 (fun sb e2 => primQ p e2 [sa, sb] fun s => match s with
      | .v (.bl true) => wpE T c e2 (fun sc e3 => primQ q e3 [sb, sc] fun s => Q s e3) X
      | .v (.bl false) => Q (.v (.bl false)) e2
      | _ => False) X) X
  | .bop k es, env, Q, X => wpB T k es env Q X
  | .ifx c a b, env, Q, X => wpE T c env (fun s e1 => tstQ s e1 fun t => if t then wpE T a e1 Q X else wpE T b e1 Q X) X
  | .call f es, env, Q, X => wpEs T es env (fun ss e1 => callQ T f e1 ss Q X) X
  | .comp own tgt k es ifs elt, env, Q, X => wpEs T es env (fun ss e1 => ownOk e1 own = true ∧ srcQ k e1 ss fun ds =>
      compW tgt own (fun e K => wpTs T ifs e K) (fun e K => wpE T elt e K fun _ _ => False) ds [] (locks e1 ss)
        fun acc e2 => Q (.o 0 (.lst acc)) (restore e1 (unlocks e1 e2 ss) own)) X
where popQ (n : Nat) (xs : List D) (K : Sl → List D → Prop) : Prop := match xs.getLast? with
  | some d => match n with
    | 0 => K (.v d) xs.dropLast
    | n + 1 => K (.o n d) xs.dropLast
  | none => False
def wpEs (T : Txt) : List RE → Env' → (List Sl → Env' → Prop) → QX → Prop
  | [], env, Q, _ => Q [] env
  | e :: es, env, Q, X => wpE T e env (fun s e1 => wpEs T es e1 (fun ss e2 => Q (s :: ss) e2) X) X
def wpB (T : Txt) : Bool → List RE → Env' → QE → QX → Prop
  | _, [], _, _, _ => False
  | _, [e], env, Q, X => wpE T e env Q X
  | k, e :: e2 :: es, env, Q, X => wpE T e env (fun s e1 => tstQ s e1 fun t => if t = k then wpB T k (e2 :: es) e1 Q X else Q s e1) X
def wpTs (T : Txt) : List RE → Env' → (Bool → Env' → Prop) → Prop
  | [], env, Q => Q true env
  | e :: es, env, Q => wpE T e env (fun s e1 => tstQ s e1 fun t => if t then wpTs T es e1 Q else Q false e1) fun _ _ => False
end

/-- a handler for the exception -/
def forW (tgt : Tg) (bd : Env' → (Env' → Prop) → Prop) : List D → Env' → (Env' → Prop) → Prop
  | [], env, K => K env
  | d :: r, env, K => match bindT tgt d env with
    | some e1 => bd e1 fun e2 => forW tgt bd r e2 K
    | none => False
def setxQ (n : Nat) (d ix : D) (s : Sl) (K : D → Prop) : Prop := match s.val with
  | none => False
  | some x => (match n with | 0 => True | _ + 1 => imm x = true) ∧ match d, ix with
    | .lst xs, .int i => ∃ j, ixN xs.length i = some j ∧ K (.lst (xs.set j x))
    | .dK kvs, k => ∃ k', keyOf k = some k' ∧ kvs.length < sizeLine ∧ K (.dK (putD kvs k' x))
    | .dT kvs, .tup k => ∃ k', keysOf k = some k' ∧ kvs.length < sizeLine ∧ K (.dT (putD kvs k' x))
    | _, _ => False
/-- the slot i's data is changed -/
def modQ (i : Nat) (env : Env') (f : Nat → D → (D → Prop) → Prop) (K : Env' → Prop) : Prop := match env[i]? with
  | some (.o n d) => f n d fun d' => K (env.set i (.o n d'))
  | some (.p n d) => f n d fun d' => K (env.set i (.p n d'))
  | _ => False
def appQ (s : Sl) (n : Nat) (d : D) (K : D → Prop) : Prop := match s.val, d with
  | some x, .lst xs => (match n with | 0 => True | _ + 1 => imm x = true) ∧ xs.length < sizeLine ∧ K (.lst (xs ++ [x]))
  | _, _ => False
def extQ (s : Sl) (n : Nat) (d : D) (K : D → Prop) : Prop := match s.val, d with
  | some (.lst ys), .lst xs => (match n with | 0 => True | _ + 1 => imms ys = true) ∧ xs.length + ys.length ≤ sizeLine ∧ K (.lst (xs ++ ys))
  | _, _ => False
def setAll : List Nat → List Sl → Env' → Option Env'
  | [], [], env => some env
  | i :: is, s :: ss, env => match s.val, setS env i s with
    | some _, some e => setAll is ss e
    | _, _ => none
  | _, _, _ => none
/-- what is returned -/
def retQ (s : Sl) (env : Env') (Q : QE) : Prop := match s.val with
  | some _ => Q s env
  | none => False

/-- no slot holds an exception -/
def noX (env : Env') : Bool := env.all fun s => match s with
  | .x _ => false
  | _ => true
/-- the slot i is a list -/
def okL (env : Env') (i : Nat) : Prop := match env[i]? with
  | some (.o _ (.lst _)) => True
  | some (.p _ (.lst _)) => True
  | _ => False
mutual
def wpS (T : Txt) : RS → Env' → Ks → Prop
  | .asg t e, env, K => wpE T e env (fun s e1 => asgQ t s e1 K.nx) K.ex
  | .par is es, env, K => wpEs T es env (fun ss e1 => match setAll is ss e1 with | some e2 => K.nx e2 | none => False) K.ex
  | .setx i ix e, env, K => okPk env i ∧ wpE T e env (fun s e1 => wpE T ix e1 (fun t e2 => match t.rz e2 with
      | some z => z.isFr = true ∧ modQ i e2 (fun n d => setxQ n d z.dat s) K.nx
      | none => False) K.ex) K.ex
  | .app i e, env, K => okL env i ∧ wpE T e env (fun s e1 => modQ i e1 (appQ s) K.nx) K.ex
  | .ext i e, env, K => okL env i ∧ wpE T e env (fun s e1 => modQ i e1 (extQ s) K.nx) K.ex
  | .exp e, env, K => wpE T e env (fun _ e1 => K.nx e1) K.ex
  | .ret e, env, K => wpE T e env (fun s e1 => retQ s e1 K.rt) K.ex
  | .ret0, env, K => K.rt (.v .non) env
  | .pas, env, K => K.nx env
  | .iff c a b, env, K => wpE T c env (fun s e1 => tstQ s e1 fun t => if t then wpSs T a e1 K else wpSs T b e1 K) K.ex
  | .for_ tgt k es body, env, K => wpEs T es env (fun ss e1 => srcQ k e1 ss fun ds =>
      forW tgt (fun e N => wpSs T body e { K with nx := N }) ds (locks e1 ss) fun e2 => K.nx (unlocks e1 e2 ss)) K.ex
  | .whl c body, env, K => ∃ I : Nat → Env' → Prop, (∃ m, I m env) ∧ ∀ m env, I m env →
      wpE T c env (fun s e1 => tstQ s e1 fun t => if t then wpSs T body e1 { K with nx := fun e2 => ∃ m', m' < m ∧ I m' e2 } else K.nx e1) K.ex
  | .rse c e, env, K => match e with
    | none => K.ex ⟨c, none⟩ env
    | some e => wpE T e env (fun s e1 => match s with | .v d => K.ex ⟨c, some d⟩ e1 | _ => False) K.ex
  | .tri body hs, env, K => wpSs T body env { K with ex := fun x e1 => wpH T hs x e1 K }
def wpSs (T : Txt) : List RS → Env' → Ks → Prop
  | [], env, K => K.nx env
  | s :: ss, env, K => wpS T s env { K with nx := fun e => wpSs T ss e K }
def wpH (T : Txt) : List (Nat × Option Nat × List RS) → Ex → Env' → Ks → Prop
  | [], x, env, K => K.ex x env
  | (c, i, suite) :: hs, x, env, K => if T.sub x.c c then (match i with
      | none => wpSs T suite env { K with ex := fun _ _ => False }
      | some i => match setS env i (.x x) with
        | some e => wpSs T suite e ⟨fun e2 => noX (e2.set i .no) = true ∧ K.nx (e2.set i .no), fun s e2 => (noX (e2.set i .no) && s.val.isSome) = true ∧ K.rt s (e2.set i .no), fun _ _ => False⟩
        | none => False)
    else wpH T hs x env K
end

/-! ### a weaker end -/
theorem iteM {c : Prop} [Decidable c] {A B A' B' : Prop} (h : if c then A else B) (a : A → A') (b : B → B') : if c then A' else B' := by
  split at h
  · rename_i hc; rw [if_pos hc]; exact a h
  · rename_i hc; rw [if_neg hc]; exact b h
theorem truQ_mono {d : D} {Q Q' : Bool → Prop} (h : truQ d Q) (k : ∀ b, Q b → Q' b) : truQ d Q' := by
  cases d <;> simp only [truQ] at h ⊢ <;> first | exact k _ h | exact ⟨h.1, k _ h.2⟩
theorem tstQ_mono {s : Sl} {env : Env'} {Q Q' : Bool → Prop} (h : tstQ s env Q) (k : ∀ b, Q b → Q' b) : tstQ s env Q' := by
  unfold tstQ at h ⊢
  split at h
  · exact truQ_mono h k
  · exact h.elim
theorem p2I_mono {C : Int → Int → Prop} {g : Int → Int → D} {x y : D} {Q Q' : D → Prop} (h : p2I C g x y Q) (k : ∀ d, Q d → Q' d) : p2I C g x y Q' := by
  unfold p2I at h ⊢; split at h
  · exact ⟨h.1, k _ h.2⟩
  · exact h.elim
theorem pSl_mono {lo hi : Option Int} {x : D} {Q Q' : D → Prop} (h : pSl lo hi x Q) (k : ∀ d, Q d → Q' d) : pSl lo hi x Q' := by
  unfold pSl at h ⊢; split at h
  · exact k _ h
  · exact k _ h
  · exact k _ h
  · exact h.elim
theorem pInts_mono {d : D} {Q Q' : List Int → Prop} (h : pInts d Q) (k : ∀ d, Q d → Q' d) : pInts d Q' := by
  unfold pInts at h ⊢; split at h
  · obtain ⟨ns, e, h⟩ := h; exact ⟨ns, e, k _ h⟩
  · exact h.elim
theorem pBls_mono {d : D} {Q Q' : List Bool → Prop} (h : pBls d Q) (k : ∀ d, Q d → Q' d) : pBls d Q' := by
  unfold pBls at h ⊢; split at h
  · obtain ⟨ns, e, h⟩ := h; exact ⟨ns, e, k _ h⟩
  · exact h.elim
theorem pAdd_mono {x y : D} {Q Q' : D → Prop} (h : pAdd x y Q) (k : ∀ d, Q d → Q' d) : pAdd x y Q' := by
  unfold pAdd at h ⊢; split at h
  · exact k _ h
  · exact ⟨h.1, k _ h.2⟩
  · exact ⟨h.1, k _ h.2⟩
  · exact ⟨h.1, k _ h.2⟩
  · exact h.elim
theorem pMul_mono {x y : D} {Q Q' : D → Prop} (h : pMul x y Q) (k : ∀ d, Q d → Q' d) : pMul x y Q' := by
  unfold pMul at h ⊢; split at h
  · exact ⟨h.1, k _ h.2⟩
  · exact ⟨h.1, h.2.1, h.2.2.1, k _ h.2.2.2⟩
  · exact h.elim
theorem pLt_mono {x y : D} {Q Q' : D → Prop} (h : pLt x y Q) (k : ∀ d, Q d → Q' d) : pLt x y Q' := by
  unfold pLt at h ⊢; split at h
  · exact k _ h
  · exact k _ h
  · obtain ⟨ns, ms, e1, e2, h⟩ := h; exact ⟨ns, ms, e1, e2, k _ h⟩
  · exact h.elim
theorem pIs_mono {b : Bool} {x y : D} {Q Q' : D → Prop} (h : pIs b x y Q) (k : ∀ d, Q d → Q' d) : pIs b x y Q' := by
  unfold pIs at h ⊢; split at h
  · exact k _ h
  · split at h
    · exact k _ h
    · exact h.elim
  · exact h.elim
theorem pIn_mono {b : Bool} {x y : D} {Q Q' : D → Prop} (h : pIn b x y Q) (k : ∀ d, Q d → Q' d) : pIn b x y Q' := by
  unfold pIn at h ⊢; split at h
  · exact ⟨h.1, h.2.1, h.2.2.1, h.2.2.2.1, k _ h.2.2.2.2⟩
  · exact ⟨h.1, h.2.1, k _ h.2.2⟩
  · obtain ⟨q, e, h⟩ := h; exact ⟨q, e, k _ h⟩
  · obtain ⟨q, e, h⟩ := h; exact ⟨q, e, k _ h⟩
  · exact h.elim
theorem pIdx_mono {x y : D} {Q Q' : D → Prop} (h : pIdx x y Q) (k : ∀ d, Q d → Q' d) : pIdx x y Q' := by
  unfold pIdx at h ⊢; split at h
  · obtain ⟨q, e, h⟩ := h; exact ⟨q, e, k _ h⟩
  · obtain ⟨q, e, h⟩ := h; exact ⟨q, e, k _ h⟩
  · obtain ⟨z, q, e, h⟩ := h; exact ⟨z, q, e, k _ h⟩
  · obtain ⟨q, d, e, e2, h⟩ := h; exact ⟨q, d, e, e2, k _ h⟩
  · obtain ⟨q, d, e, e2, h⟩ := h; exact ⟨q, d, e, e2, k _ h⟩
  · exact h.elim
theorem pLen_mono {x : D} {Q Q' : D → Prop} (h : pLen x Q) (k : ∀ d, Q d → Q' d) : pLen x Q' := by
  unfold pLen at h ⊢; split at h <;> first | exact k _ h | exact ⟨h.1, k _ h.2⟩ | exact h.elim
theorem pw_mono {p : Pr} {ds : List D} {Q Q' : D → Prop} (h : pw p ds Q) (k : ∀ d, Q d → Q' d) : pw p ds Q' := by
  unfold pw at h ⊢
  split at h
  all_goals first
    | exact k _ h
    | exact ⟨h.1, k _ h.2⟩
    | exact p2I_mono h k
    | exact pSl_mono h k
    | exact pAdd_mono h k
    | exact pMul_mono h k
    | exact truQ_mono h fun _ q => k _ q
    | exact pLt_mono h k
    | exact pIs_mono h k
    | exact pIn_mono h k
    | exact pIdx_mono h k
    | exact pLen_mono h k
    | exact pInts_mono h fun _ q => k _ q
    | exact pInts_mono h fun _ ⟨h0, q⟩ => ⟨h0, fun m a b => k _ (q m a b)⟩
    | exact pBls_mono h fun _ q => k _ q
    | exact ⟨h.1, h.2.1, h.2.2.1, h.2.2.2.1, k _ h.2.2.2.2⟩
    | exact ⟨h.1, h.2.1, h.2.2.1, k _ h.2.2.2⟩
    | exact h.elim
    | skip
  split at h
  · rcases h with ⟨ns, e, h⟩ | ⟨ns, e, h⟩
    · exact .inl ⟨ns, e, fun ms a b => k _ (h ms a b)⟩
    · exact .inr ⟨ns, e, fun ms a b => k _ (h ms a b)⟩
  · exact h.elim
theorem primQ_mono {p : Pr} {env : Env'} {ss : List Sl} {Q Q' : Sl → Prop} (h : primQ p env ss Q) (k : ∀ s, Q s → Q' s) : primQ p env ss Q' := by
  unfold primQ at h ⊢; split at h
  · unfold nestQ at h ⊢; split at h
    · exact ⟨h.1, h.2.1, h.2.2.1, k _ h.2.2.2⟩
    · exact h.elim
  · unfold primQ.primQ0 at h ⊢; split at h
    · exact pw_mono h fun d q => ⟨q.1, k _ q.2⟩
    · exact h.elim
theorem srcD_mono {k : SrcK} {ds : List D} {Q Q' : List D → Prop} (h : srcD k ds Q) (m : ∀ s, Q s → Q' s) : srcD k ds Q' := by
  unfold srcD at h ⊢; split at h
  · split at h
    · exact m _ h
    · exact h.elim
  · exact ⟨h.1, h.2.1, m _ h.2.2⟩
  · exact ⟨h.1, m _ h.2⟩
  · split at h
    · exact m _ h
    · exact h.elim
  · split at h
    · exact m _ h
    · exact h.elim
  · exact ⟨h.1, m _ h.2⟩
  · exact m _ h
  · exact h.elim
theorem srcQ_mono {k : SrcK} {env : Env'} {ss : List Sl} {Q Q' : List D → Prop} (h : srcQ k env ss Q) (m : ∀ s, Q s → Q' s) : srcQ k env ss Q' := by
  unfold srcQ at h ⊢; split at h
  · exact ⟨h.1, srcD_mono h.2 m⟩
  · exact h.elim
theorem callQ_mono {T : Txt} {f : Nat} {env : Env'} {ss : List Sl} {Q Q' : QE} {X X' : QX} (h : callQ T f env ss Q X) (k : ∀ s e, Q s e → Q' s e) (kx : ∀ x e, X x e → X' x e) : callQ T f env ss Q' X' := by
  unfold callQ at h ⊢; split at h
  · exact h.elim
  · exact ⟨h.1, h.2.1, (T.ctr f).mono h.2.2 (fun s o q => ⟨q.1, q.2.1, k _ _ q.2.2⟩) fun e o q => ⟨q.1, q.2.1, kx _ _ q.2.2⟩⟩
theorem compW_mono {tgt : Tg} {own : List Nat} {ts ts' : Env' → (Bool → Env' → Prop) → Prop} {el el' : Env' → QE → Prop}
    (ht : ∀ e Q Q', ts e Q → (∀ b e, Q b e → Q' b e) → ts' e Q') (he : ∀ e Q Q', el e Q → (∀ b e, Q b e → Q' b e) → el' e Q') :
    ∀ (ds acc : List D) (env : Env') {K K' : List D → Env' → Prop}, compW tgt own ts el ds acc env K → (∀ a e, K a e → K' a e) → compW tgt own ts' el' ds acc env K'
  | [], acc, env, K, K', h, k => k _ _ h
  | d :: r, acc, env, K, K', h, k => by
    unfold compW at h ⊢
    split at h
    · refine ht _ _ _ h fun b e2 q => iteM q (fun q => ?_) fun q => compW_mono ht he r _ _ q k
      refine he _ _ _ q fun s e3 q3 => ?_
      split at q3
      · exact ⟨q3.1, compW_mono ht he r _ _ q3.2 k⟩
      · exact q3.elim
    · exact h.elim
theorem popQ_mono {n : Nat} {xs : List D} {K K' : Sl → List D → Prop} (h : wpE.popQ n xs K) (k : ∀ s y, K s y → K' s y) : wpE.popQ n xs K' := by
  unfold wpE.popQ at h ⊢; split at h
  · split at h <;> exact k _ _ h
  · exact h.elim

mutual
theorem wpE_mono {T : Txt} : ∀ (r : RE) (env : Env') {Q Q' : QE} {X X' : QX}, wpE T r env Q X → (∀ s e, Q s e → Q' s e) → (∀ x e, X x e → X' x e) → wpE T r env Q' X'
  | .lit d, env, Q, Q', X, X', h, k, kx => by simp only [wpE] at h ⊢; exact k _ _ h
  | .glb g, env, Q, Q', X, X', h, k, kx => by simp only [wpE] at h ⊢; exact k _ _ h
  | .var i, env, Q, Q', X, X', h, k, kx => by
    simp only [wpE] at h ⊢; split at h
    · exact k _ _ h
    · exact k _ _ h
    · exact h.elim
  | .mv i, env, Q, Q', X, X', h, k, kx => by
    simp only [wpE] at h ⊢; split at h
    · exact k _ _ h
    · exact k _ _ h
    · exact h.elim
  | .pk i, env, Q, Q', X, X', h, k, kx => by simp only [wpE] at h ⊢; exact ⟨h.1, k _ _ h.2⟩
  | .fld i c, env, Q, Q', X, X', h, k, kx => by
    simp only [wpE] at h ⊢; split at h
    · split at h
      · exact ⟨h.1, k _ _ h.2⟩
      · exact h.elim
    · exact h.elim
  | .pop i, env, Q, Q', X, X', h, k, kx => by
    simp only [wpE] at h ⊢; split at h
    · exact popQ_mono h fun _ _ q => k _ _ q
    · exact popQ_mono h fun _ _ q => k _ _ q
    · exact h.elim
  | .prim p es, env, Q, Q', X, X', h, k, kx => by
    simp only [wpE] at h ⊢
    exact wpEs_mono es env h (fun ss e q => primQ_mono q fun s q => k _ _ q) kx
  | .chn p q a b c, env, Q, Q', X, X', h, k, kx => by
    simp only [wpE] at h ⊢
    refine wpE_mono a env h (fun sa e1 h1 => wpE_mono b e1 h1 (fun sb e2 h2 => primQ_mono h2 fun s h3 => ?_) kx) kx
    split at h3
    · exact wpE_mono c e2 h3 (fun sc e3 h4 => primQ_mono h4 fun s q => k _ _ q) kx
    · exact k _ _ h3
    · exact h3.elim
  | .bop b es, env, Q, Q', X, X', h, k, kx => by
    simp only [wpE] at h ⊢
    exact wpB_mono b es env h k kx
  | .ifx c a b, env, Q, Q', X, X', h, k, kx => by
    simp only [wpE] at h ⊢
    exact wpE_mono c env h (fun s e1 h1 => tstQ_mono h1 fun t h2 => iteM h2 (fun h2 => wpE_mono a e1 h2 k kx) fun h2 => wpE_mono b e1 h2 k kx) kx
  | .call f es, env, Q, Q', X, X', h, k, kx => by
    simp only [wpE] at h ⊢
    exact wpEs_mono es env h (fun ss e q => callQ_mono q k kx) kx
  | .comp own tgt sk es ifs elt, env, Q, Q', X, X', h, k, kx => by
    simp only [wpE] at h ⊢
    refine wpEs_mono es env h (fun ss e1 q => ⟨q.1, srcQ_mono q.2 fun ds h1 => compW_mono (fun e Q Q' a b => wpTs_mono ifs e a b) (fun e Q Q' a b => wpE_mono elt e a b fun _ _ h => h) ds [] _ h1 fun acc e2 h2 => k _ _ h2⟩) kx
theorem wpEs_mono {T : Txt} : ∀ (es : List RE) (env : Env') {Q Q' : List Sl → Env' → Prop} {X X' : QX}, wpEs T es env Q X → (∀ s e, Q s e → Q' s e) → (∀ x e, X x e → X' x e) → wpEs T es env Q' X'
  | [], env, Q, Q', X, X', h, k, kx => by simp only [wpEs] at h ⊢; exact k _ _ h
  | e :: es, env, Q, Q', X, X', h, k, kx => by
    simp only [wpEs] at h ⊢
    exact wpE_mono e env h (fun s e1 h1 => wpEs_mono es e1 h1 (fun ss e2 h2 => k _ _ h2) kx) kx
theorem wpB_mono {T : Txt} : ∀ (b : Bool) (es : List RE) (env : Env') {Q Q' : QE} {X X' : QX}, wpB T b es env Q X → (∀ s e, Q s e → Q' s e) → (∀ x e, X x e → X' x e) → wpB T b es env Q' X'
  | _, [], env, Q, Q', X, X', h, k, kx => by simp only [wpB] at h
  | b, [e], env, Q, Q', X, X', h, k, kx => by
    simp only [wpB] at h ⊢
    exact wpE_mono e env h k kx
  | b, e :: e2 :: es, env, Q, Q', X, X', h, k, kx => by
    rw [wpB] at h ⊢
    exact wpE_mono e env h (fun s e1 h1 => tstQ_mono h1 fun t h2 => iteM h2 (fun h2 => wpB_mono b (e2 :: es) e1 h2 k kx) fun h2 => k _ _ h2) kx
theorem wpTs_mono {T : Txt} : ∀ (es : List RE) (env : Env') {Q Q' : Bool → Env' → Prop}, wpTs T es env Q → (∀ s e, Q s e → Q' s e) → wpTs T es env Q'
  | [], env, Q, Q', h, k => by simp only [wpTs] at h ⊢; exact k _ _ h
  | e :: es, env, Q, Q', h, k => by
    simp only [wpTs] at h ⊢
    exact wpE_mono e env h (fun s e1 h1 => tstQ_mono h1 fun t h2 => iteM h2 (fun h2 => wpTs_mono es e1 h2 k) fun h2 => k _ _ h2) fun _ _ h => h
end

theorem asgQ_mono {t : Tg} {s : Sl} {env : Env'} {Q Q' : Env' → Prop} (h : asgQ t s env Q) (k : ∀ e, Q e → Q' e) : asgQ t s env Q' := by
  unfold asgQ at h ⊢; split at h
  · split at h
    · split at h
      · exact k _ h
      · exact h.elim
    · exact h.elim
  · split at h
    · split at h
      · exact k _ h
      · exact h.elim
    · exact h.elim
theorem setxQ_mono {n : Nat} {d ix : D} {s : Sl} {Q Q' : D → Prop} (h : setxQ n d ix s Q) (k : ∀ e, Q e → Q' e) : setxQ n d ix s Q' := by
  unfold setxQ at h ⊢; split at h
  · exact h.elim
  · refine ⟨h.1, ?_⟩
    have h := h.2
    split at h
    · obtain ⟨j, e, h⟩ := h; exact ⟨j, e, k _ h⟩
    · obtain ⟨j, e, e2, h⟩ := h; exact ⟨j, e, e2, k _ h⟩
    · obtain ⟨j, e, e2, h⟩ := h; exact ⟨j, e, e2, k _ h⟩
    · exact h.elim
theorem modQ_mono {i : Nat} {env : Env'} {f f' : Nat → D → (D → Prop) → Prop} {Q Q' : Env' → Prop} (h : modQ i env f Q) (hf : ∀ n d (P P' : D → Prop), f n d P → (∀ d, P d → P' d) → f' n d P') (k : ∀ e, Q e → Q' e) : modQ i env f' Q' := by
  unfold modQ at h ⊢; split at h
  · exact hf _ _ _ _ h fun d q => k _ q
  · exact hf _ _ _ _ h fun d q => k _ q
  · exact h.elim
theorem appQ_mono {s : Sl} {n : Nat} {d : D} {Q Q' : D → Prop} (h : appQ s n d Q) (k : ∀ e, Q e → Q' e) : appQ s n d Q' := by
  unfold appQ at h ⊢; split at h
  · exact ⟨h.1, h.2.1, k _ h.2.2⟩
  · exact h.elim
theorem extQ_mono {s : Sl} {n : Nat} {d : D} {Q Q' : D → Prop} (h : extQ s n d Q) (k : ∀ e, Q e → Q' e) : extQ s n d Q' := by
  unfold extQ at h ⊢; split at h
  · exact ⟨h.1, h.2.1, k _ h.2.2⟩
  · exact h.elim
theorem retQ_mono {s : Sl} {env : Env'} {Q Q' : QE} (h : retQ s env Q) (k : ∀ s e, Q s e → Q' s e) : retQ s env Q' := by
  unfold retQ at h ⊢; split at h
  · exact k _ _ h
  · exact h.elim
theorem forW_mono {tgt : Tg} {bd bd' : Env' → (Env' → Prop) → Prop} (hb : ∀ e Q Q', bd e Q → (∀ e, Q e → Q' e) → bd' e Q') :
    ∀ (ds : List D) (env : Env') {K K' : Env' → Prop}, forW tgt bd ds env K → (∀ e, K e → K' e) → forW tgt bd' ds env K'
  | [], env, K, K', h, k => k _ h
  | d :: r, env, K, K', h, k => by
    unfold forW at h ⊢; split at h
    · exact hb _ _ _ h fun e q => forW_mono hb r e q k
    · exact h.elim

/-- a block's ends, weaker -/
structure Ks.Le (K K' : Ks) : Prop where
  nx : ∀ e, K.nx e → K'.nx e
  rt : ∀ s e, K.rt s e → K'.rt s e
  ex : ∀ x e, K.ex x e → K'.ex x e
mutual
theorem wpS_mono {T : Txt} : ∀ (r : RS) (env : Env') {K K' : Ks}, wpS T r env K → K.Le K' → wpS T r env K'
  | .asg t e, env, K, K', h, l => by simp only [wpS] at h ⊢; exact wpE_mono e env h (fun s e1 h1 => asgQ_mono h1 l.nx) l.ex
  | .par is es, env, K, K', h, l => by
    simp only [wpS] at h ⊢
    refine wpEs_mono es env h (fun s e1 h1 => ?_) l.ex
    split at h1
    · exact l.nx _ h1
    · exact h1.elim
  | .setx i ix e, env, K, K', h, l => by
    simp only [wpS] at h ⊢
    refine ⟨h.1, wpE_mono e env h.2 (fun s e1 h1 => wpE_mono ix e1 h1 (fun t e2 h2 => ?_) l.ex) l.ex⟩
    split at h2
    · exact ⟨h2.1, modQ_mono h2.2 (fun n d P P' a b => setxQ_mono a b) l.nx⟩
    · exact h2.elim
  | .app i e, env, K, K', h, l => by simp only [wpS] at h ⊢; exact ⟨h.1, wpE_mono e env h.2 (fun s e1 h1 => modQ_mono h1 (fun n d P P' a b => appQ_mono a b) l.nx) l.ex⟩
  | .ext i e, env, K, K', h, l => by simp only [wpS] at h ⊢; exact ⟨h.1, wpE_mono e env h.2 (fun s e1 h1 => modQ_mono h1 (fun n d P P' a b => extQ_mono a b) l.nx) l.ex⟩
  | .exp e, env, K, K', h, l => by simp only [wpS] at h ⊢; exact wpE_mono e env h (fun s e1 h1 => l.nx _ h1) l.ex
  | .ret e, env, K, K', h, l => by simp only [wpS] at h ⊢; exact wpE_mono e env h (fun s e1 h1 => retQ_mono h1 l.rt) l.ex
  | .ret0, env, K, K', h, l => by simp only [wpS] at h ⊢; exact l.rt _ _ h
  | .pas, env, K, K', h, l => by simp only [wpS] at h ⊢; exact l.nx _ h
  | .iff c a b, env, K, K', h, l => by
    simp only [wpS] at h ⊢
    exact wpE_mono c env h (fun s e1 h1 => tstQ_mono h1 fun t h2 => iteM h2 (fun h2 => wpSs_mono a e1 h2 l) fun h2 => wpSs_mono b e1 h2 l) l.ex
  | .for_ tgt k es body, env, K, K', h, l => by
    simp only [wpS] at h ⊢
    exact wpEs_mono es env h (fun ss e1 h1 => srcQ_mono h1 fun ds h2 => forW_mono (bd := fun e N => wpSs T body e { K with nx := N }) (fun e Q Q' a b => wpSs_mono body e a (K' := { K' with nx := Q' }) ⟨b, l.rt, l.ex⟩) ds _ h2 fun e2 h3 => l.nx _ h3) l.ex
  | .whl c body, env, K, K', h, l => by
    simp only [wpS] at h ⊢
    obtain ⟨I, h0, h⟩ := h
    refine ⟨I, h0, fun m env hI => ?_⟩
    exact wpE_mono c env (h m env hI) (fun s e1 h1 => tstQ_mono h1 fun t h2 => iteM h2 (fun h2 => wpSs_mono body e1 h2 (K' := { K' with nx := fun e2 => ∃ m', m' < m ∧ I m' e2 }) ⟨fun _ q => q, l.rt, l.ex⟩) fun h2 => l.nx _ h2) l.ex
  | .rse c e, env, K, K', h, l => by
    cases e with
    | none => simp only [wpS] at h ⊢; exact l.ex _ _ h
    | some e =>
      simp only [wpS] at h ⊢
      refine wpE_mono e env h (fun s e1 h1 => ?_) l.ex
      split at h1
      · exact l.ex _ _ h1
      · exact h1.elim
  | .tri body hs, env, K, K', h, l => by
    simp only [wpS] at h ⊢
    exact wpSs_mono body env h ⟨l.nx, l.rt, fun x e h1 => wpH_mono hs x e h1 l⟩
theorem wpSs_mono {T : Txt} : ∀ (r : List RS) (env : Env') {K K' : Ks}, wpSs T r env K → K.Le K' → wpSs T r env K'
  | [], env, K, K', h, l => by simp only [wpSs] at h ⊢; exact l.nx _ h
  | s :: ss, env, K, K', h, l => by simp only [wpSs] at h ⊢; exact wpS_mono s env h ⟨fun e q => wpSs_mono ss e q l, l.rt, l.ex⟩
theorem wpH_mono {T : Txt} : ∀ (hs : List (Nat × Option Nat × List RS)) (x : Ex) (env : Env') {K K' : Ks}, wpH T hs x env K → K.Le K' → wpH T hs x env K'
  | [], x, env, K, K', h, l => by simp only [wpH] at h ⊢; exact l.ex _ _ h
  | (c, i, suite) :: hs, x, env, K, K', h, l => by
    simp only [wpH] at h ⊢
    split at h
    · rename_i hc
      rw [if_pos hc]
      cases i with
      | none => exact wpSs_mono suite env h ⟨l.nx, l.rt, fun _ _ h => h⟩
      | some i =>
        dsimp only at h ⊢
        split at h
        · exact wpSs_mono suite _ h (Ks.Le.mk (fun e (q : _ ∧ _) => ⟨q.1, l.nx _ q.2⟩) (fun s e (q : _ ∧ _) => ⟨q.1, l.rt _ _ q.2⟩) fun _ _ h => h)
        · exact h.elim
    · rename_i hc
      rw [if_neg hc]
      exact wpH_mono hs x env h l
end
end DL
end
section
set_option Elab.async false
set_option linter.all false
set_option maxRecDepth 100000
set_option maxHeartbeats 3900000
/-! DL3b: what is locked stays so. -/
namespace DL
open PySem PySem.Spec L2

def Lk (env e : Env') : Prop := ∀ (i : Nat) (b : Bool) (n : Nat) (d : D), env[i]? = some (.w b n d) → e[i]? = some (.w b n d)
theorem Lk.refl (env : Env') : Lk env env := fun _ _ _ _ h => h
theorem Lk.trans {a b c : Env'} (h : Lk a b) (k : Lk b c) : Lk a c := fun i x n d e => k i x n d (h i x n d e)
/-- a slot that is not locked is set -/
theorem Lk.set {env : Env'} {i : Nat} {s : Sl} (h : ∀ b n d, env[i]? ≠ some (.w b n d)) : Lk env (env.set i s) := fun j b n d e => by
  by_cases hj : j = i
  · subst hj; exact absurd e (h b n d)
  · rw [List.getElem?_set_ne (Ne.symm hj)]; exact e
theorem Lk.set' {env e : Env'} {i : Nat} {s : Sl} (k : Lk env e) (h : ∀ b n d, env[i]? ≠ some (.w b n d)) : Lk env (e.set i s) := fun j b n d q => by
  by_cases hj : j = i
  · subst hj; exact absurd q (h b n d)
  · rw [List.getElem?_set_ne (Ne.symm hj)]; exact k j b n d q
theorem setS_lk {env e : Env'} {i : Nat} {s : Sl} (h : setS env i s = some e) : Lk env e := by
  unfold setS at h; split at h
  · rename_i t ht
    split at h
    · rename_i hf
      cases h
      exact Lk.set fun b n d e => by rw [ht] at e; cases e; cases hf
    · cases h
  · cases h
mutual
theorem bindT_lk : ∀ (t : Tg) (d : D) (env : Env') {e : Env'}, bindT t d env = some e → Lk env e
  | .nm i, d, env, e, h => by simp only [bindT] at h; exact setS_lk h
  | .tp ts, d, env, e, h => by
    simp only [bindT] at h; split at h
    · exact bindTs_lk ts _ env h
    · exact bindTs_lk ts _ env h
    · cases h
theorem bindTs_lk : ∀ (ts : List Tg) (ds : List D) (env : Env') {e : Env'}, bindTs ts ds env = some e → Lk env e
  | [], [], env, e, h => by simp only [bindTs] at h; cases h; exact Lk.refl _
  | t :: ts, d :: ds, env, e, h => by
    simp only [bindTs] at h; split at h
    · rename_i e1 h1; exact (bindT_lk t d env h1).trans (bindTs_lk ts ds _ h)
    · cases h
  | [], _ :: _, env, e, h => by simp [bindTs] at h
  | _ :: _, [], env, e, h => by simp [bindTs] at h
end
theorem asgQ_lk {t : Tg} {s : Sl} {env : Env'} {Q : Env' → Prop} (h : asgQ t s env Q) : asgQ t s env fun e => Lk env e ∧ Q e := by
  unfold asgQ at h ⊢; split at h
  · split at h
    · split at h
      · rename_i h1; exact ⟨setS_lk h1, h⟩
      · exact h.elim
    · exact h.elim
  · split at h
    · split at h
      · rename_i h1; exact ⟨bindT_lk _ _ _ h1, h⟩
      · exact h.elim
    · exact h.elim
theorem lockS_lk {env : Env'} {s : Sl} : Lk env (lockS env s) := by
  cases s <;> simp only [lockS] <;> try exact Lk.refl _
  split
  · rename_i h; exact Lk.set fun b n d e => by rw [h] at e; cases e
  · rename_i h; exact Lk.set fun b n d e => by rw [h] at e; cases e
  · exact Lk.refl _
theorem locks_lk : ∀ (ss : List Sl) (env : Env'), Lk env (locks env ss)
  | [], env => Lk.refl _
  | s :: ss, env => (lockS_lk (s := s)).trans (locks_lk ss (lockS env s))
theorem unlockS_lk {e1 e : Env'} {env : Env'} {s : Sl} (h : Lk env e1) (k : Lk env e) : Lk env (unlockS e1 e s) := by
  cases s <;> simp only [unlockS] <;> try exact k
  split
  · rename_i q; exact k.set' fun b n d r => by have := h _ _ _ _ r; rw [q] at this; cases this
  · rename_i q; exact k.set' fun b n d r => by have := h _ _ _ _ r; rw [q] at this; cases this
  · exact k
theorem unlocks_lk {e1 env : Env'} : ∀ (ss : List Sl) (e : Env'), Lk env e1 → Lk env e → Lk env (unlocks e1 e ss)
  | [], e, h, k => k
  | s :: ss, e, h, k => unlocks_lk ss (unlockS e1 e s) h (unlockS_lk h k)
theorem own_not {env : Env'} {own : List Nat} (h : ownOk env own = true) : ∀ i ∈ own, ∀ b n d, env[i]? ≠ some (.w b n d) := fun i hi b n d e => by
  have := List.all_eq_true.mp h i hi
  rw [e] at this; cases this
theorem wipe_lk {env : Env'} : ∀ (own : List Nat) (e : Env'), (∀ i ∈ own, ∀ b n d, env[i]? ≠ some (.w b n d)) → Lk env e → Lk env (own.foldl (fun e i => e.set i .no) e)
  | [], e, _, k => k
  | i :: own, e, h, k => wipe_lk own _ (fun j hj => h j (List.mem_cons_of_mem _ hj)) (k.set' (h i List.mem_cons_self))
theorem restore_lk {env e1 : Env'} : ∀ (own : List Nat) (e : Env'), (∀ i ∈ own, ∀ b n d, env[i]? ≠ some (.w b n d)) → Lk env e → Lk env (restore e1 e own)
  | [], e, _, k => k
  | i :: own, e, h, k => by
    show Lk env (restore e1 (match e1[i]? with | some s => e.set i s | none => e) own)
    refine restore_lk own _ (fun j hj => h j (List.mem_cons_of_mem _ hj)) ?_
    split
    · exact k.set' (h i List.mem_cons_self)
    · exact k
theorem backS_lk {env : Env'} {i : Nat} {s : Sl} : Lk env (backS env i s) := by
  unfold backS; split
  · rename_i h; exact Lk.set fun b n d e => by rw [h] at e; cases e
  · rename_i h; exact Lk.set fun b n d e => by rw [h] at e; cases e
  · exact Lk.refl _
theorem backs_lk : ∀ (ls : List Bool) (ss outs : List Sl) (env : Env'), Lk env (backs env ls ss outs)
  | [], _, _, _ => by simp only [backs]; exact Lk.refl _
  | _ :: _, [], _, _ => by simp only [backs]; exact Lk.refl _
  | _ :: _, _ :: _, [], _ => by simp only [backs]; exact Lk.refl _
  | l :: ls, s :: ss, o :: outs, env => by
    cases l with
    | false => simp only [backs]; exact backs_lk ls ss outs env
    | true => cases s with
      | q i => simp only [backs]; exact backS_lk.trans (backs_lk ls ss outs _)
      | _ => simp only [backs]; exact backs_lk ls ss outs env
theorem callQ_lk {T : Txt} {f : Nat} {env : Env'} {ss : List Sl} {Q : QE} {X : QX} (h : callQ T f env ss Q X) : callQ T f env ss (fun s e => Lk env e ∧ Q s e) (fun x e => Lk env e ∧ X x e) := by
  unfold callQ at h ⊢; split at h
  · exact h.elim
  · exact ⟨h.1, h.2.1, (T.ctr f).mono h.2.2 (fun s o q => ⟨q.1, q.2.1, backs_lk _ _ _ _, q.2.2⟩) fun e o q => ⟨q.1, q.2.1, backs_lk _ _ _ _, q.2.2⟩⟩
theorem compW_lk {tgt : Tg} {own : List Nat} {ts : Env' → (Bool → Env' → Prop) → Prop} {el : Env' → QE → Prop} {env0 : Env'} (ho : ∀ i ∈ own, ∀ b n d, env0[i]? ≠ some (.w b n d))
    (mt : ∀ e Q Q', ts e Q → (∀ b e, Q b e → Q' b e) → ts e Q') (me : ∀ e Q Q', el e Q → (∀ b e, Q b e → Q' b e) → el e Q')
    (ht : ∀ e Q, ts e Q → ts e fun b e' => Lk e e' ∧ Q b e') (he : ∀ e Q, el e Q → el e fun b e' => Lk e e' ∧ Q b e') :
    ∀ (ds acc : List D) (env : Env') {K : List D → Env' → Prop}, Lk env0 env → compW tgt own ts el ds acc env K → compW tgt own ts el ds acc env fun a e => Lk env0 e ∧ K a e
  | [], acc, env, K, k, h => ⟨k, h⟩
  | d :: r, acc, env, K, k, h => by
    unfold compW at h ⊢
    split at h
    · rename_i e1 hb
      have k1 : Lk env0 e1 := (wipe_lk own env ho k).trans (bindT_lk _ _ _ hb)
      refine mt _ _ _ (ht _ _ h) fun b e2 q => iteM q.2 (fun q2 => ?_) fun q2 => compW_lk ho mt me ht he r _ _ (k1.trans q.1) q2
      refine me _ _ _ (he _ _ q2) fun s e3 q3 => ?_
      have q4 := q3.2
      split at q4
      · exact ⟨q4.1, compW_lk ho mt me ht he r _ _ ((k1.trans q.1).trans q3.1) q4.2⟩
      · exact q4.elim
    · exact h.elim

mutual
theorem wpE_lk {T : Txt} : ∀ (r : RE) (env : Env') {Q : QE} {X : QX}, wpE T r env Q X → wpE T r env (fun s e => Lk env e ∧ Q s e) (fun x e => Lk env e ∧ X x e)
  | .lit d, env, Q, X, h => by simp only [wpE] at h ⊢; exact ⟨Lk.refl _, h⟩
  | .glb g, env, Q, X, h => by simp only [wpE] at h ⊢; exact ⟨Lk.refl _, h⟩
  | .var i, env, Q, X, h => by
    simp only [wpE] at h ⊢; split at h
    · exact ⟨Lk.refl _, h⟩
    · rename_i q; exact ⟨Lk.set (fun b n d e => by rw [q] at e; cases e), h⟩
    · exact h.elim
  | .mv i, env, Q, X, h => by
    simp only [wpE] at h ⊢; split at h
    · exact ⟨Lk.refl _, h⟩
    · rename_i q; exact ⟨Lk.set (fun b n d e => by rw [q] at e; cases e), h⟩
    · exact h.elim
  | .pk i, env, Q, X, h => by simp only [wpE] at h ⊢; exact ⟨h.1, Lk.refl _, h.2⟩
  | .fld i c, env, Q, X, h => by
    simp only [wpE] at h ⊢; split at h
    · split at h
      · exact ⟨h.1, Lk.refl _, h.2⟩
      · exact h.elim
    · exact h.elim
  | .pop i, env, Q, X, h => by
    simp only [wpE] at h ⊢; split at h
    · rename_i q; exact popQ_mono h fun _ _ k => ⟨Lk.set (fun b n d e => by rw [q] at e; cases e), k⟩
    · rename_i q; exact popQ_mono h fun _ _ k => ⟨Lk.set (fun b n d e => by rw [q] at e; cases e), k⟩
    · exact h.elim
  | .prim p es, env, Q, X, h => by
    simp only [wpE] at h ⊢
    exact wpEs_mono es env (wpEs_lk es env h) (fun ss e q => primQ_mono q.2 fun s k => ⟨q.1, k⟩) fun _ _ h => h
  | .chn p q a b c, env, Q, X, h => by
    simp only [wpE] at h ⊢
    refine wpE_mono a env (wpE_lk a env h) (fun sa e1 h1 => wpE_mono b e1 (wpE_lk b e1 h1.2) (fun sb e2 h2 => primQ_mono h2.2 fun s h3 => ?_) fun x e q => ⟨h1.1.trans q.1, q.2⟩) fun _ _ h => h
    split at h3
    · exact wpE_mono c e2 (wpE_lk c e2 h3) (fun sc e3 h4 => primQ_mono h4.2 fun s q => ⟨(h1.1.trans h2.1).trans h4.1, q⟩) fun x e q => ⟨(h1.1.trans h2.1).trans q.1, q.2⟩
    · exact ⟨h1.1.trans h2.1, h3⟩
    · exact h3.elim
  | .bop b es, env, Q, X, h => by
    simp only [wpE] at h ⊢
    exact wpB_lk b es env h
  | .ifx c a b, env, Q, X, h => by
    simp only [wpE] at h ⊢
    exact wpE_mono c env (wpE_lk c env h) (fun s e1 h1 => tstQ_mono h1.2 fun t h2 => iteM h2 (fun h2 => wpE_mono a e1 (wpE_lk a e1 h2) (fun s e q => ⟨h1.1.trans q.1, q.2⟩) fun x e q => ⟨h1.1.trans q.1, q.2⟩)
      fun h2 => wpE_mono b e1 (wpE_lk b e1 h2) (fun s e q => ⟨h1.1.trans q.1, q.2⟩) fun x e q => ⟨h1.1.trans q.1, q.2⟩) fun _ _ h => h
  | .call f es, env, Q, X, h => by
    simp only [wpE] at h ⊢
    exact wpEs_mono es env (wpEs_lk es env h) (fun ss e q => callQ_mono (callQ_lk q.2) (fun s e2 k => ⟨q.1.trans k.1, k.2⟩) fun x e2 k => ⟨q.1.trans k.1, k.2⟩) fun _ _ h => h
  | .comp own tgt sk es ifs elt, env, Q, X, h => by
    simp only [wpE] at h ⊢
    refine wpEs_mono es env (wpEs_lk es env h) (fun ss e1 q => ⟨q.2.1, srcQ_mono q.2.2 fun ds h1 => ?_⟩) fun _ _ h => h
    have ho := own_not q.2.1
    have ho' : ∀ i ∈ own, ∀ b n d, env[i]? ≠ some (.w b n d) := fun i hi b n d e => ho i hi b n d (q.1 i b n d e)
    refine compW_mono (fun e Q Q' a b => wpTs_mono ifs e a b) (fun e Q Q' a b => wpE_mono elt e a b fun _ _ h => h) ds [] _
      (compW_lk (env0 := env) ho' (fun e Q Q' a b => wpTs_mono ifs e a b) (fun e Q Q' a b => wpE_mono elt e a b fun _ _ h => h) (fun e Q a => wpTs_lk ifs e a)
        (fun e Q a => wpE_mono elt e (wpE_lk elt e a) (fun _ _ h => h) fun _ _ h => h.2) ds [] _ (q.1.trans (locks_lk ss e1)) h1) fun acc e2 h2 => ⟨?_, h2.2⟩
    exact restore_lk own _ ho' (unlocks_lk ss e2 q.1 h2.1)
theorem wpEs_lk {T : Txt} : ∀ (es : List RE) (env : Env') {Q : List Sl → Env' → Prop} {X : QX}, wpEs T es env Q X → wpEs T es env (fun s e => Lk env e ∧ Q s e) (fun x e => Lk env e ∧ X x e)
  | [], env, Q, X, h => by simp only [wpEs] at h ⊢; exact ⟨Lk.refl _, h⟩
  | e :: es, env, Q, X, h => by
    simp only [wpEs] at h ⊢
    exact wpE_mono e env (wpE_lk e env h) (fun s e1 h1 => wpEs_mono es e1 (wpEs_lk es e1 h1.2) (fun ss e2 h2 => ⟨h1.1.trans h2.1, h2.2⟩) fun x e q => ⟨h1.1.trans q.1, q.2⟩) fun _ _ h => h
theorem wpB_lk {T : Txt} : ∀ (b : Bool) (es : List RE) (env : Env') {Q : QE} {X : QX}, wpB T b es env Q X → wpB T b es env (fun s e => Lk env e ∧ Q s e) (fun x e => Lk env e ∧ X x e)
  | _, [], env, Q, X, h => by simp only [wpB] at h
  | b, [e], env, Q, X, h => by
    simp only [wpB] at h ⊢
    exact wpE_lk e env h
  | b, e :: e2 :: es, env, Q, X, h => by
    rw [wpB] at h ⊢
    exact wpE_mono e env (wpE_lk e env h) (fun s e1 h1 => tstQ_mono h1.2 fun t h2 => iteM h2 (fun h2 => wpB_mono b (e2 :: es) e1 (wpB_lk b (e2 :: es) e1 h2) (fun s e q => ⟨h1.1.trans q.1, q.2⟩) fun x e q => ⟨h1.1.trans q.1, q.2⟩) fun h2 => ⟨h1.1, h2⟩) fun _ _ h => h
theorem wpTs_lk {T : Txt} : ∀ (es : List RE) (env : Env') {Q : Bool → Env' → Prop}, wpTs T es env Q → wpTs T es env (fun s e => Lk env e ∧ Q s e)
  | [], env, Q, h => by simp only [wpTs] at h ⊢; exact ⟨Lk.refl _, h⟩
  | e :: es, env, Q, h => by
    simp only [wpTs] at h ⊢
    exact wpE_mono e env (wpE_lk e env h) (fun s e1 h1 => tstQ_mono h1.2 fun t h2 => iteM h2 (fun h2 => wpTs_mono es e1 (wpTs_lk es e1 h2) fun b e q => ⟨h1.1.trans q.1, q.2⟩) fun h2 => ⟨h1.1, h2⟩) fun _ _ h => h.2
end
end DL
end
section
set_option Elab.async false
set_option linter.all false
set_option maxRecDepth 100000
set_option maxHeartbeats 3900000
/-! DL3c: what is locked stays so, through statements. -/
namespace DL
open PySem PySem.Spec L2

def Ks.lk (env : Env') (K : Ks) : Ks := ⟨fun e => Lk env e ∧ K.nx e, fun s e => Lk env e ∧ K.rt s e, fun x e => Lk env e ∧ K.ex x e⟩
theorem Ks.lk_le {a b : Env'} {K : Ks} (l : Lk a b) : (K.lk b).Le (K.lk a) := ⟨fun e h => ⟨l.trans h.1, h.2⟩, fun s e h => ⟨l.trans h.1, h.2⟩, fun s e h => ⟨l.trans h.1, h.2⟩⟩
theorem modQ_lk {i : Nat} {env e0 : Env'} {f : Nat → D → (D → Prop) → Prop} {Q : Env' → Prop} (hf : ∀ n d (P P' : D → Prop), f n d P → (∀ d, P d → P' d) → f n d P') (l : Lk e0 env) (h : modQ i env f Q) : modQ i env f fun e => Lk e0 e ∧ Q e := by
  unfold modQ at h ⊢; split at h
  · rename_i n d e
    exact hf _ _ _ _ h fun d' q => ⟨l.trans (Lk.set fun b n d q => by rw [e] at q; cases q), q⟩
  · rename_i n d e
    exact hf _ _ _ _ h fun d' q => ⟨l.trans (Lk.set fun b n d q => by rw [e] at q; cases q), q⟩
  · exact h.elim
theorem setAll_lk : ∀ {is : List Nat} {ss : List Sl} {env e : Env'}, setAll is ss env = some e → Lk env e
  | [], [], env, e, h => by simp only [setAll] at h; cases h; exact Lk.refl _
  | i :: is, s :: ss, env, e, h => by
    simp only [setAll] at h; split at h
    · rename_i h1 h2; exact (setS_lk h2).trans (setAll_lk h)
    · cases h
  | [], _ :: _, env, e, h => by simp [setAll] at h
  | _ :: _, [], env, e, h => by simp [setAll] at h
theorem forW_lk {tgt : Tg} {bd : Env' → (Env' → Prop) → Prop} {e0 : Env'} (hm : ∀ e Q Q', bd e Q → (∀ e, Q e → Q' e) → bd e Q') (hb : ∀ e Q, Lk e0 e → bd e Q → bd e fun e2 => Lk e0 e2 ∧ Q e2) :
    ∀ (ds : List D) (env : Env') {K : Env' → Prop}, Lk e0 env → forW tgt bd ds env K → forW tgt bd ds env fun e => Lk e0 e ∧ K e
  | [], env, K, l, h => ⟨l, h⟩
  | d :: r, env, K, l, h => by
    unfold forW at h ⊢; split at h
    · rename_i e1 h1
      exact hm _ _ _ (hb _ _ (l.trans (bindT_lk _ _ _ h1)) h) fun e2 q => forW_lk hm hb r e2 q.1 q.2
    · exact h.elim
mutual
theorem wpS_lk {T : Txt} : ∀ (r : RS) (env : Env') {K : Ks}, wpS T r env K → wpS T r env (K.lk env)
  | .asg t e, env, K, h => by
    simp only [wpS] at h ⊢
    exact wpE_mono e env (wpE_lk e env h) (fun s e1 h1 => asgQ_mono (asgQ_lk h1.2) fun e q => ⟨h1.1.trans q.1, q.2⟩) fun _ _ h => h
  | .par is es, env, K, h => by
    simp only [wpS] at h ⊢
    refine wpEs_mono es env (wpEs_lk es env h) (fun s e1 h1 => ?_) fun _ _ h => h
    have h2 := h1.2
    split at h2
    · rename_i e2 q; exact ⟨h1.1.trans (setAll_lk q), h2⟩
    · exact h2.elim
  | .setx i ix e, env, K, h => by
    simp only [wpS] at h ⊢
    refine ⟨h.1, wpE_mono e env (wpE_lk e env h.2) (fun s e1 h1 => wpE_mono ix e1 (wpE_lk ix e1 h1.2) (fun t e2 h2 => ?_) fun _ _ h => ⟨h1.1.trans h.1, h.2⟩) fun _ _ h => h⟩
    have h3 := h2.2
    split at h3
    · exact ⟨h3.1, modQ_lk (fun n d P P' a b => setxQ_mono a b) (h1.1.trans h2.1) h3.2⟩
    · exact h3.elim
  | .app i e, env, K, h => by
    simp only [wpS] at h ⊢
    exact ⟨h.1, wpE_mono e env (wpE_lk e env h.2) (fun s e1 h1 => modQ_lk (fun n d P P' a b => appQ_mono a b) h1.1 h1.2) fun _ _ h => h⟩
  | .ext i e, env, K, h => by
    simp only [wpS] at h ⊢
    exact ⟨h.1, wpE_mono e env (wpE_lk e env h.2) (fun s e1 h1 => modQ_lk (fun n d P P' a b => extQ_mono a b) h1.1 h1.2) fun _ _ h => h⟩
  | .exp e, env, K, h => by simp only [wpS] at h ⊢; exact wpE_lk e env h
  | .ret e, env, K, h => by
    simp only [wpS] at h ⊢
    refine wpE_mono e env (wpE_lk e env h) (fun s e1 h1 => ?_) fun _ _ h => h
    have h2 := h1.2
    unfold retQ at h2 ⊢; split at h2
    · exact ⟨h1.1, h2⟩
    · exact h2.elim
  | .ret0, env, K, h => by simp only [wpS] at h ⊢; exact ⟨Lk.refl _, h⟩
  | .pas, env, K, h => by simp only [wpS] at h ⊢; exact ⟨Lk.refl _, h⟩
  | .iff c a b, env, K, h => by
    simp only [wpS] at h ⊢
    exact wpE_mono c env (wpE_lk c env h) (fun s e1 h1 => tstQ_mono h1.2 fun t h2 => iteM h2 (fun h2 => wpSs_mono a e1 (wpSs_lk a e1 h2) (Ks.lk_le h1.1)) fun h2 => wpSs_mono b e1 (wpSs_lk b e1 h2) (Ks.lk_le h1.1)) fun _ _ h => h
  | .for_ tgt k es body, env, K, h => by
    simp only [wpS] at h ⊢
    refine wpEs_mono es env (wpEs_lk es env h) (fun ss e1 h1 => srcQ_mono h1.2 fun ds h2 => ?_) fun _ _ h => h
    have l1 := h1.1
    have l2 : Lk env (locks e1 ss) := l1.trans (locks_lk ss e1)
    have key := forW_lk (e0 := env) (tgt := tgt) (bd := fun e N => wpSs T body e { K.lk env with nx := N }) (fun e Q Q' a b => wpSs_mono body e a ⟨b, fun _ _ h => h, fun _ _ h => h⟩)
      (fun e Q l q => wpSs_mono body e (wpSs_lk body e q) ⟨fun e2 q => ⟨l.trans q.1, q.2⟩, fun s e2 q => q.2, fun s e2 q => q.2⟩) ds (locks e1 ss) l2
      (K := fun e2 => K.nx (unlocks e1 e2 ss)) ?_
    · exact forW_mono (bd' := fun e N => wpSs T body e { K.lk env with nx := N }) (fun e Q Q' a b => wpSs_mono body e a ⟨b, fun _ _ h => h, fun _ _ h => h⟩) ds _ key fun e2 h3 => ⟨unlocks_lk ss e2 l1 h3.1, h3.2⟩
    · have lkd : ∀ (ds : List D) (ev : Env'), Lk env ev → forW tgt (fun e N => wpSs T body e { K with nx := N }) ds ev (fun e2 => K.nx (unlocks e1 e2 ss)) → forW tgt (fun e N => wpSs T body e { K.lk env with nx := N }) ds ev fun e2 => K.nx (unlocks e1 e2 ss) := by
        intro ds
        induction ds with
        | nil => intro ev _ h; exact h
        | cons d ds ih =>
          intro ev l h
          unfold forW at h ⊢; split at h
          · rename_i e2 q
            have l3 := l.trans (bindT_lk _ _ _ q)
            exact wpSs_mono body e2 (wpSs_lk body e2 h) ⟨fun e3 q => ih e3 (l3.trans q.1) q.2, fun s e3 q => ⟨l3.trans q.1, q.2⟩, fun s e3 q => ⟨l3.trans q.1, q.2⟩⟩
          · exact h.elim
      exact lkd ds _ l2 h2
  | .whl c body, env, K, h => by
    simp only [wpS] at h ⊢
    obtain ⟨I, ⟨m0, h0⟩, h⟩ := h
    refine ⟨fun m e => I m e ∧ Lk env e, ⟨m0, h0, Lk.refl _⟩, fun m ev hI => ?_⟩
    have l := hI.2
    exact wpE_mono c ev (wpE_lk c ev (h m ev hI.1)) (fun s e1 h1 => tstQ_mono h1.2 fun t h2 => iteM h2 (fun h2 => wpSs_mono body e1 (wpSs_lk body e1 h2) ⟨fun e q => by
      obtain ⟨q1, m', q2, q3⟩ := q
      exact ⟨m', q2, q3, (l.trans h1.1).trans q1⟩, fun s e q => ⟨(l.trans h1.1).trans q.1, q.2⟩, fun s e q => ⟨(l.trans h1.1).trans q.1, q.2⟩⟩) fun h2 => ⟨l.trans h1.1, h2⟩) fun x e h => ⟨l.trans h.1, h.2⟩
  | .rse c e, env, K, h => by
    cases e with
    | none => simp only [wpS] at h ⊢; exact ⟨Lk.refl _, h⟩
    | some e =>
      simp only [wpS] at h ⊢
      refine wpE_mono e env (wpE_lk e env h) (fun s e1 h1 => ?_) fun _ _ h => h
      have h2 := h1.2
      split at h2
      · exact ⟨h1.1, h2⟩
      · exact h2.elim
  | .tri body hs, env, K, h => by
    simp only [wpS] at h ⊢
    exact wpSs_mono body env (wpSs_lk body env h) ⟨fun _ q => q, fun _ _ q => q, fun x e q => wpH_mono hs x e (wpH_lk hs x e q.2) (Ks.lk_le q.1)⟩
theorem wpSs_lk {T : Txt} : ∀ (r : List RS) (env : Env') {K : Ks}, wpSs T r env K → wpSs T r env (K.lk env)
  | [], env, K, h => by simp only [wpSs] at h ⊢; exact ⟨Lk.refl _, h⟩
  | s :: ss, env, K, h => by
    simp only [wpSs] at h ⊢
    exact wpS_mono s env (wpS_lk s env h) ⟨fun e q => wpSs_mono ss e (wpSs_lk ss e q.2) (Ks.lk_le q.1), fun _ _ q => q, fun _ _ q => q⟩
theorem wpH_lk {T : Txt} : ∀ (hs : List (Nat × Option Nat × List RS)) (x : Ex) (env : Env') {K : Ks}, wpH T hs x env K → wpH T hs x env (K.lk env)
  | [], x, env, K, h => by simp only [wpH] at h ⊢; exact ⟨Lk.refl _, h⟩
  | (c, i, suite) :: hs, x, env, K, h => by
    simp only [wpH] at h ⊢
    split at h
    · rename_i hc
      rw [if_pos hc]
      cases i with
      | none => exact wpSs_mono suite env (wpSs_lk suite env h) ⟨fun _ q => q, fun _ _ q => q, fun _ _ q => q.2⟩
      | some i =>
        dsimp only at h ⊢
        split at h
        · rename_i e q
          have l := setS_lk q
          have hx : e[i]? = some (.x x) := by
            unfold setS at q; split at q
            · rename_i t ht
              split at q
              · cases q; have := (List.getElem?_eq_some_iff.mp ht).1; simp [this]
              · cases q
            · cases q
          have hw : ∀ b n d, env[i]? ≠ some (.w b n d) := fun b n d e' => by
            have := l i b n d e'
            rw [hx] at this; cases this
          exact wpSs_mono suite e (wpSs_lk suite e h) (Ks.Le.mk (fun e2 (q2 : _ ∧ _ ∧ _) => ⟨q2.2.1, (l.trans q2.1).set' hw, q2.2.2⟩) (fun _ e2 (q2 : _ ∧ _ ∧ _) => ⟨q2.2.1, (l.trans q2.1).set' hw, q2.2.2⟩) fun _ _ q => q.2)
        · exact h.elim
    · rename_i hc
      rw [if_neg hc]
      exact wpH_lk hs x env h
end
end DL
end
section
set_option Elab.async false
set_option linter.all false
set_option maxRecDepth 100000
set_option maxHeartbeats 3900000
/-! DL4: states: the slots stand for data, step by step. -/
namespace DL
open PySem PySem.Spec L2

/-- what stays the same through a def: the written part, the exceptions' classes and fields -/
structure Cn where
  K : PySem.W.Frag
  ca : Nat → Addr
  cf : Nat → Str

def ExOk (c : Cn) (H : Hp) (Z : Addr → Prop) (e : Ex) (cls : Value) (d : Option Addr) : Prop :=
  cls = .ref (c.ca e.c) ∧ match e.a with
    | none => True
    | some x => ∃ a v, d = some a ∧ H a = some (.xd [(c.cf e.c, v)]) ∧ Rep c.K H Z 0 v x []

abbrev Zn := Addr → Prop
abbrev Fs := Nat → List Addr
/-- the parameters' own values; the exception at hand -/
structure Am where
  pv : Nat → Option V
  xa : Option (Addr × Value × Option Addr)

def SlOk (c : Cn) (m : Am) (H : Hp) (Z : Zn) (σ : St) (i : Nat) (F : List Addr) : Sl → Prop
  | .no => F = []
  | .v d => F = [] ∧ ∃ x, σ[i]? = some (some x) ∧ Rep c.K H Z 0 x d []
  | .o n d => ∃ x, σ[i]? = some (some x) ∧ Rep c.K H Z (n + 1) x d F
  | .p n d => ∃ x, σ[i]? = some (some x) ∧ m.pv i = some x ∧ Rep c.K H Z (n + 1) x d F
  | .w b n d => ∃ x, σ[i]? = some (some x) ∧ (b = true → m.pv i = some x) ∧ Rep c.K H Z (n + 1) x d F
  | .q _ => False
  | .x e => F = [] ∧ ∃ a cls dd, m.xa = some (a, cls, dd) ∧ σ[i]? = some (some (.ref a)) ∧ ExOk c H Z e cls dd

structure StOk (c : Cn) (m : Am) (H : Hp) (Z : Zn) (σ : St) (env : Env') (F : Fs) : Prop where
  len : env.length = σ.length
  sl : ∀ i s, env[i]? = some s → SlOk c m H Z σ i (F i) s
  out : ∀ i, env.length ≤ i → F i = []
  dis : ∀ i j a, i ≠ j → a ∈ F i → a ∉ F j
  zn : ∀ i a, a ∈ F i → ¬ Z a
  zh : ∀ a, Z a → H a ≠ none

/-- from one state to a later one -/
structure Ext (H : Hp) (Z : Zn) (F : Fs) (H' : Hp) (Z' : Zn) (F' : Fs) : Prop where
  keep : ∀ a o, H a = some o → (¬ Mut (some o) ∨ ∀ i, a ∉ F i) → H' a = some o
  dom : ∀ a, H a ≠ none → H' a ≠ none
  fsub : ∀ i a, a ∈ F' i → (∃ j, a ∈ F j) ∨ H a = none
  zsub : ∀ a, Z a → Z' a
  znew : ∀ a, Z' a → Z a ∨ (∃ j, a ∈ F j) ∨ H a = none
theorem Ext.refl (H : Hp) (Z : Zn) (F : Fs) : Ext H Z F H Z F := ⟨fun _ _ e _ => e, fun _ h => h, fun i _ h => .inl ⟨i, h⟩, fun _ h => h, fun _ h => .inl h⟩
section
variable {c : Cn} {m : Am} {H H1 H2 H' : Hp} {Z Z1 Z2 Z' : Zn} {F F1 F2 F' : Fs} {σ σ' : St} {env env' : Env'} {n : Nat} {x : V} {xs : List V} {d : D} {s : Sl} {ss : List Sl} {G G' : List Addr}
theorem none_of {H : Hp} {a : Addr} (h : ¬ H a ≠ none) : H a = none := by
  cases e : H a with
  | none => rfl
  | some o => exact absurd (by rw [e]; simp) h
theorem Ext.trans (e : Ext H Z F H1 Z1 F1) (f : Ext H1 Z1 F1 H2 Z2 F2) : Ext H Z F H2 Z2 F2 where
  keep := fun a o h k => f.keep a o (e.keep a o h k) (k.imp id fun k i hi => by
    rcases e.fsub i a hi with ⟨j, hj⟩ | hn
    · exact k j hj
    · rw [hn] at h; cases h)
  dom := fun a h => f.dom a (e.dom a h)
  fsub := fun i a h => by
    rcases f.fsub i a h with ⟨j, hj⟩ | hn
    · exact e.fsub j a hj
    · exact .inr (none_of fun q => e.dom a q hn)
  zsub := fun a h => f.zsub a (e.zsub a h)
  znew := fun a h => by
    rcases f.znew a h with h | ⟨j, hj⟩ | hn
    · exact e.znew a h
    · exact .inr (e.fsub j a hj)
    · exact .inr (.inr (none_of fun q => e.dom a q hn))
/-- where an address of a value may come from -/
def GSub (H : Hp) (F : Fs) (G : List Addr) : Prop := ∀ a ∈ G, (∃ j, a ∈ F j) ∨ H a = none
theorem GSub.nil : GSub H F [] := fun _ h => by cases h
theorem GSub.back (e : Ext H Z F H1 Z1 F1) (g : GSub H1 F1 G) : GSub H F G := fun a h => by
  rcases g a h with ⟨j, hj⟩ | hn
  · exact e.fsub j a hj
  · exact .inr (none_of fun q => e.dom a q hn)
theorem GSub.append (g : GSub H F G) (g' : GSub H F G') : GSub H F (G ++ G') := fun a h => (List.mem_append.mp h).elim (g a) (g' a)

/-- a value of its own, apart from all slots -/
structure Sep (Z : Zn) (F : Fs) (G : List Addr) : Prop where
  z : ∀ a ∈ G, ¬ Z a
  f : ∀ a ∈ G, ∀ i, a ∉ F i
theorem Sep.nil : Sep Z F [] := ⟨fun _ h => (by cases h), fun _ h => (by cases h)⟩
theorem Sep.ext (s : Sep Z F G) (h : ∀ a ∈ G, H a ≠ none) (e : Ext H Z F H' Z' F') : Sep Z' F' G where
  z := fun a ha hz => by
    rcases e.znew a hz with z | ⟨j, hj⟩ | hn
    · exact s.z a ha z
    · exact s.f a ha j hj
    · exact h a ha hn
  f := fun a ha i hi => by
    rcases e.fsub i a hi with ⟨j, hj⟩ | hn
    · exact s.f a ha j hj
    · exact h a ha hn
theorem Rs.ext {K : PySem.W.Frag} {vs : List V} {ds : List D} (r : Rs K H Z n vs ds G) (sp : ∀ a ∈ G, ∀ i, a ∉ F i) (zn : ∀ i a, a ∈ F i → ¬ Z a) (e : Ext H Z F H' Z' F') : Rs K H' Z' n vs ds G :=
  r.keep (fun a o h k => e.keep a o h (by
    rcases k with k | k | k
    · exact .inl k
    · exact .inr fun i hi => zn i a hi k
    · exact .inr (sp a k))) e.zsub
theorem ExOk.ext {ex : Ex} {cls : Value} {dd : Option Addr} (h : ExOk c H Z ex cls dd) (zn : ∀ i a, a ∈ F i → ¬ Z a) (e : Ext H Z F H' Z' F') : ExOk c H' Z' ex cls dd := by
  obtain ⟨h1, h2⟩ := h
  refine ⟨h1, ?_⟩
  cases q : ex.a with
  | none => trivial
  | some x =>
    rw [q] at h2
    obtain ⟨a, v, e1, e2, r⟩ := h2
    exact ⟨a, v, e1, e.keep a _ e2 (.inl fun h => h), r.ext (fun _ h => by cases h) zn e⟩

/-- a value that an expression gave -/
def TOk (c : Cn) (H : Hp) (Z : Zn) (σ : St) (x : V) (G : List Addr) : Sl → Prop
  | .v d => G = [] ∧ Rep c.K H Z 0 x d []
  | .o n d => Rep c.K H Z (n + 1) x d G
  | .q i => G = [] ∧ σ[i]? = some (some x)
  | _ => False
theorem TOk.there (t : TOk c H Z σ x G s) : ∀ a ∈ G, H a ≠ none := by
  cases s <;> simp only [TOk] at t
  · intro a h; rw [t.1] at h; cases h
  · intro a h; exact Rs.there t h
  · intro a h; rw [t.1] at h; cases h
theorem TOk.ext (t : TOk c H Z σ x G s) (sp : Sep Z F G) (zn : ∀ i a, a ∈ F i → ¬ Z a) (e : Ext H Z F H' Z' F') : TOk c H' Z' σ x G s := by
  cases s <;> simp only [TOk] at t ⊢
  · exact ⟨t.1, t.2.ext (fun _ h => by cases h) zn e⟩
  · exact Rs.ext t sp.f zn e
  · exact t
/-- several, from the left -/
inductive Tmps (c : Cn) (H : Hp) (Z : Zn) (σ : St) : List V → List Sl → List Addr → Prop
  | nil : Tmps c H Z σ [] [] []
  | cons {x : V} {s : Sl} {G : List Addr} {xs : List V} {ss : List Sl} {G' : List Addr} : TOk c H Z σ x G s → Tmps c H Z σ xs ss G' → Dj G G' → Tmps c H Z σ (x :: xs) (s :: ss) (G ++ G')
theorem Tmps.there (t : Tmps c H Z σ xs ss G) : ∀ a ∈ G, H a ≠ none := by
  induction t with
  | nil => intro a h; cases h
  | cons t _ _ ih => intro a h; exact (List.mem_append.mp h).elim (t.there a) (ih a)
theorem Tmps.length (t : Tmps c H Z σ xs ss G) : xs.length = ss.length := by
  induction t with
  | nil => rfl
  | cons _ _ _ ih => simp [ih]
theorem Sep.left (s : Sep Z F (G ++ G')) : Sep Z F G := ⟨fun a h => s.z a (List.mem_append_left _ h), fun a h => s.f a (List.mem_append_left _ h)⟩
theorem Sep.right (s : Sep Z F (G ++ G')) : Sep Z F G' := ⟨fun a h => s.z a (List.mem_append_right _ h), fun a h => s.f a (List.mem_append_right _ h)⟩
theorem Sep.both (s : Sep Z F G) (t : Sep Z F G') : Sep Z F (G ++ G') := ⟨fun a h => (List.mem_append.mp h).elim (s.z a) (t.z a), fun a h => (List.mem_append.mp h).elim (s.f a) (t.f a)⟩
theorem Tmps.ext (t : Tmps c H Z σ xs ss G) (sp : Sep Z F G) (zn : ∀ i a, a ∈ F i → ¬ Z a) (e : Ext H Z F H' Z' F') : Tmps c H' Z' σ xs ss G := by
  induction t with
  | nil => exact .nil
  | cons t _ dj ih => exact .cons (t.ext sp.left zn e) (ih sp.right) dj

/-! ### the state, changed -/
theorem SlOk.ext {i : Nat} {A : List Addr} (h : SlOk c m H Z σ i A s) (sp : ∀ a ∈ A, H' a = H a) (k : ∀ a o, H a = some o → (¬ Mut (some o) ∨ Z a) → H' a = some o) (hz : ∀ a, Z a → Z' a) : SlOk c m H' Z' σ i A s := by
  have kr : ∀ {K : PySem.W.Frag} {n : Nat} {vs : List V} {ds : List D} {B : List Addr}, Rs K H Z n vs ds B → (∀ a ∈ B, H' a = H a) → Rs K H' Z' n vs ds B := fun r hb => r.keep (fun a o e q => by
    rcases q with q | q | q
    · exact k a o e (.inl q)
    · exact k a o e (.inr q)
    · rw [hb a q]; exact e) hz
  cases s <;> simp only [SlOk] at h ⊢
  · exact h
  · obtain ⟨e, x, h1, r⟩ := h; exact ⟨e, x, h1, kr r fun _ h => by cases h⟩
  · obtain ⟨x, h1, r⟩ := h; exact ⟨x, h1, kr r sp⟩
  · obtain ⟨x, h1, h2, r⟩ := h; exact ⟨x, h1, h2, kr r sp⟩
  · obtain ⟨x, h1, h2, r⟩ := h; exact ⟨x, h1, h2, kr r sp⟩
  · obtain ⟨e, a, cls, dd, h1, h2, h3⟩ := h
    refine ⟨e, a, cls, dd, h1, h2, h3.1, ?_⟩
    have h3 := h3.2
    split at h3
    · trivial
    · obtain ⟨a, v, e1, e2, r⟩ := h3; exact ⟨a, v, e1, k _ _ e2 (.inl fun h => h), kr r fun _ h => by cases h⟩
theorem SlOk.stay {i : Nat} {A : List Addr} (h : SlOk c m H Z σ i A s) (e : σ'[i]? = σ[i]?) : SlOk c m H Z σ' i A s := by
  cases s <;> simp only [SlOk] at h ⊢ <;> (try rw [e]) <;> exact h
theorem SlOk.there {i : Nat} {A : List Addr} (h : SlOk c m H Z σ i A s) : ∀ a ∈ A, Mut (H a) := by
  cases s <;> simp only [SlOk] at h
  · intro a q; rw [h] at q; cases q
  · intro a q; rw [h.1] at q; cases q
  · obtain ⟨x, _, r⟩ := h; exact r.muts
  · obtain ⟨x, _, _, r⟩ := h; exact r.muts
  · obtain ⟨x, _, _, r⟩ := h; exact r.muts
  · intro a q; rw [h.1] at q; cases q
theorem StOk.muts (S : StOk c m H Z σ env F) {i : Nat} {a : Addr} (h : a ∈ F i) : Mut (H a) := by
  cases e : env[i]? with
  | none => rw [S.out i (List.getElem?_eq_none_iff.mp e)] at h; cases h
  | some s => exact (S.sl i s e).there a h
theorem mut_ne {o : Option HO} (h : Mut o) : o ≠ none := fun e => by rw [e] at h; exact h
theorem StOk.there (S : StOk c m H Z σ env F) {i : Nat} {a : Addr} (h : a ∈ F i) : H a ≠ none := mut_ne (S.muts h)
/-- the heap grows -/
theorem StOk.grow (S : StOk c m H Z σ env F) (k : ∀ a o, H a = some o → H' a = some o) : StOk c m H' Z σ env F where
  len := S.len
  sl := fun i s e => (S.sl i s e).ext (fun a h => by
    have q := S.there h
    cases e : H a with
    | none => exact absurd e q
    | some o => exact k a o e) (fun a o e _ => k a o e) fun _ h => h
  out := S.out
  dis := S.dis
  zn := S.zn
  zh := fun a h q => by
    cases e : H a with
    | none => exact S.zh a h e
    | some o => rw [k a o e] at q; cases q
theorem Ext.grow (k : ∀ a o, H a = some o → H' a = some o) : Ext H Z F H' Z F where
  keep := fun a o e _ => k a o e
  dom := fun a h q => by
    cases e : H a with
    | none => exact h e
    | some o => rw [k a o e] at q; cases q
  fsub := fun i a h => .inl ⟨i, h⟩
  zsub := fun _ h => h
  znew := fun _ h => .inl h
/-- what is apart is only read from now on -/
def zadd (Z : Zn) (G : List Addr) : Zn := fun a => Z a ∨ a ∈ G
theorem StOk.zone (S : StOk c m H Z σ env F) (sp : ∀ a ∈ G, ∀ i, a ∉ F i) (h : ∀ a ∈ G, H a ≠ none) : StOk c m H (zadd Z G) σ env F where
  len := S.len
  sl := fun i s e => (S.sl i s e).ext (fun _ _ => rfl) (fun _ _ e _ => e) fun _ h => .inl h
  out := S.out
  dis := S.dis
  zn := fun i a hi hz => hz.elim (S.zn i a hi) fun hg => sp a hg i hi
  zh := fun a hz => hz.elim (S.zh a) (h a)
theorem Ext.zone (g : GSub H F G) (e : Ext H Z F H1 Z1 F1) : Ext H Z F H1 (zadd Z1 G) F1 where
  keep := e.keep
  dom := e.dom
  fsub := e.fsub
  zsub := fun a h => .inl (e.zsub a h)
  znew := fun a h => h.elim (e.znew a) fun h => .inr (g a h)
/-- the footprints, at i -/
def fset (F : Fs) (i : Nat) (G : List Addr) : Fs := fun j => if j = i then G else F j
theorem fset_same {i : Nat} : fset F i G i = G := if_pos rfl
theorem fset_ne {i j : Nat} (h : j ≠ i) : fset F i G j = F j := if_neg h
theorem get_set_same {α : Type} {l : List α} {i : Nat} {x y : α} (h : (l.set i x)[i]? = some y) : y = x := by
  have hi : i < l.length := by have := (List.getElem?_eq_some_iff.mp h).1; simpa using this
  rw [List.getElem?_set_self hi] at h
  exact (Option.some.inj h).symm
/-- slot i gets what is apart -/
theorem StOk.put {i : Nat} (S : StOk c m H Z σ env F) (hi : i < env.length) (sp : Sep Z F G) (h : SlOk c m H Z (σ.set i (some x)) i G s) : StOk c m H Z (σ.set i (some x)) (env.set i s) (fset F i G) where
  len := by rw [List.length_set, List.length_set]; exact S.len
  sl := fun j t e => by
    by_cases hj : j = i
    · subst hj
      have := get_set_same e
      subst this
      rw [fset_same]; exact h
    · rw [List.getElem?_set_ne (Ne.symm hj)] at e
      rw [fset_ne hj]
      exact (S.sl j t e).stay (List.getElem?_set_ne (Ne.symm hj))
  out := fun j hj => by
    rw [List.length_set] at hj
    rw [fset_ne (by omega)]; exact S.out j hj
  dis := fun j k a hjk h1 h2 => by
    by_cases hj : j = i
    · subst hj
      rw [fset_same] at h1
      rw [fset_ne (Ne.symm hjk)] at h2
      exact sp.f a h1 k h2
    · rw [fset_ne hj] at h1
      by_cases hk : k = i
      · subst hk; rw [fset_same] at h2; exact sp.f a h2 j h1
      · rw [fset_ne hk] at h2; exact S.dis j k a hjk h1 h2
  zn := fun j a h1 => by
    by_cases hj : j = i
    · subst hj; rw [fset_same] at h1; exact sp.z a h1
    · rw [fset_ne hj] at h1; exact S.zn j a h1
  zh := S.zh
/-- slot i's state alone is changed, its footprint within what it was -/
theorem StOk.alt {i : Nat} (S : StOk c m H Z σ env F) (hi : i < env.length) (sub : ∀ a ∈ G, a ∈ F i) (h : SlOk c m H Z σ i G s) : StOk c m H Z σ (env.set i s) (fset F i G) where
  len := by rw [List.length_set]; exact S.len
  sl := fun j t e => by
    by_cases hj : j = i
    · subst hj
      have := get_set_same e
      subst this
      rw [fset_same]; exact h
    · rw [List.getElem?_set_ne (Ne.symm hj)] at e
      rw [fset_ne hj]
      exact S.sl j t e
  out := fun j hj => by
    rw [List.length_set] at hj
    rw [fset_ne (by omega)]; exact S.out j hj
  dis := fun j k a hjk h1 h2 => by
    have up : ∀ {j}, a ∈ fset F i G j → a ∈ F j := fun {j} h => by
      by_cases hj : j = i
      · subst hj; rw [fset_same] at h; exact sub a h
      · rw [fset_ne hj] at h; exact h
    exact S.dis j k a hjk (up h1) (up h2)
  zn := fun j a h1 => by
    by_cases hj : j = i
    · subst hj; rw [fset_same] at h1; exact S.zn j a (sub a h1)
    · rw [fset_ne hj] at h1; exact S.zn j a h1
  zh := S.zh
theorem Ext.put {i : Nat} (e : Ext H Z F H1 Z1 F1) (g : GSub H F G) : Ext H Z F H1 Z1 (fset F1 i G) where
  keep := e.keep
  dom := e.dom
  fsub := fun j a h => by
    by_cases hj : j = i
    · subst hj; rw [fset_same] at h; exact g a h
    · rw [fset_ne hj] at h; exact e.fsub j a h
  zsub := e.zsub
  znew := e.znew
theorem Ext.alt {i : Nat} (e : Ext H Z F H1 Z1 F1) (sub : ∀ a ∈ G, a ∈ F1 i) : Ext H Z F H1 Z1 (fset F1 i G) := e.put fun a h => e.fsub i a (sub a h)
/-- slot i is only read from now on -/
theorem StOk.frz {i : Nat} {n : Nat} {d : D} (S : StOk c m H Z σ env F) (hi : env[i]? = some (.o n d)) : StOk c m H (zadd Z (F i)) σ (env.set i (.v d)) (fset F i []) := by
  obtain ⟨x, h1, r⟩ := S.sl i _ hi
  have hl : i < env.length := (List.getElem?_eq_some_iff.mp hi).1
  have S1 : StOk c m H Z σ (env.set i .no) (fset F i []) := S.alt hl (fun _ h => by cases h) (show SlOk c m H Z σ i [] .no from rfl)
  have S2 : StOk c m H (zadd Z (F i)) σ (env.set i .no) (fset F i []) := S1.zone (fun a ha j hj => by
    by_cases e : j = i
    · subst e; rw [fset_same] at hj; cases hj
    · rw [fset_ne e] at hj; exact S.dis j i a e hj ha) fun a ha => S.there ha
  have S3 := S2.alt (i := i) (G := []) (s := .v d) (by rw [List.length_set]; exact hl) (fun _ h => by cases h) ⟨rfl, x, h1, r.freeze (fun _ h => .inl h) fun _ h => .inr h⟩
  have e1 : (env.set i Sl.no).set i (.v d) = env.set i (.v d) := List.set_set ..
  have e2 : fset (fset F i []) i [] = fset F i [] := by funext j; unfold fset; split <;> rfl
  rw [e1, e2] at S3
  exact S3
theorem Ext.frz {i : Nat} : Ext H Z F H (zadd Z (F i)) (fset F i []) where
  keep := fun _ _ e _ => e
  dom := fun _ h => h
  fsub := fun j a h => by
    by_cases hj : j = i
    · subst hj; rw [fset_same] at h; cases h
    · rw [fset_ne hj] at h; exact .inl ⟨j, h⟩
  zsub := fun _ h => .inl h
  znew := fun a h => h.imp id fun h => .inl ⟨i, h⟩

/-! ### operands -/
/-- an operand's value -/
def Vw (c : Cn) (H : Hp) (Z : Zn) (x : V) : Rz → Prop
  | .fr d => Rep c.K H Z 0 x d []
  | .ow n d => ∃ A, Rep c.K H Z (n + 1) x d A
inductive Vws (c : Cn) (H : Hp) (Z : Zn) : List V → List Rz → Prop
  | nil : Vws c H Z [] []
  | cons {x : V} {z : Rz} {xs : List V} {zs : List Rz} : Vw c H Z x z → Vws c H Z xs zs → Vws c H Z (x :: xs) (z :: zs)
theorem Vw.of {G0 : List Addr} (S : StOk c m H Z σ env F) (t : TOk c H Z σ x G s) (sub : ∀ a ∈ G, a ∈ G0) {z : Rz} (e : s.rz env = some z) : Vw c H (zadd Z G0) x z := by
  have up : ∀ {K : PySem.W.Frag} {n : Nat} {vs : List V} {ds : List D} {B : List Addr}, Rs K H Z n vs ds B → Rs K H (zadd Z G0) n vs ds B := fun r => r.keep (fun _ _ e _ => e) fun _ h => .inl h
  cases s with
  | no => cases e
  | v d => cases e; exact up t.2
  | o n d => cases e; exact Rs.freeze t (fun _ h => .inl h) fun a h => .inr (sub a h)
  | p n d => cases e
  | w b n d => cases e
  | x ex => cases e
  | q i =>
    obtain ⟨_, hx⟩ := t
    simp only [Sl.rz] at e
    split at e
    · rename_i d q; cases e
      obtain ⟨_, y, h1, r⟩ := S.sl i _ q
      rw [hx] at h1; cases h1
      exact up r
    · rename_i n d q; cases e
      obtain ⟨y, h1, r⟩ := S.sl i _ q
      rw [hx] at h1; cases h1
      exact ⟨_, up r⟩
    · rename_i n d q; cases e
      obtain ⟨y, h1, _, r⟩ := S.sl i _ q
      rw [hx] at h1; cases h1
      exact ⟨_, up r⟩
    · rename_i b n d q; cases e
      obtain ⟨y, h1, _, r⟩ := S.sl i _ q
      rw [hx] at h1; cases h1
      exact ⟨_, up r⟩
    · cases e
theorem Vws.of {G0 : List Addr} (S : StOk c m H Z σ env F) (t : Tmps c H Z σ xs ss G) : ∀ {zs : List Rz}, (∀ a ∈ G, a ∈ G0) → rzs env ss = some zs → Vws c H (zadd Z G0) xs zs := by
  induction t with
  | nil => intro zs _ e; cases e; exact .nil
  | cons t _ _ ih =>
    intro zs sub e
    simp only [rzs] at e
    split at e
    · rename_i z zs' h1 h2
      cases e
      exact .cons (Vw.of S t (fun a h => sub a (List.mem_append_left _ h)) h1) (ih (fun a h => sub a (List.mem_append_right _ h)) h2)
    · cases e
end
end DL
end
section
set_option Elab.async false
set_option linter.all false
set_option maxRecDepth 100000
set_option maxHeartbeats 3900000
/-! DL5: the operations keep what pw says. -/
namespace DL
open PySem PySem.Spec L2

/-- an operand by its items -/
def IV (c : Cn) (H : Hp) (Z : Zn) (x : V) : D → Prop
  | .lst ds => ∃ a vs, x = .ref a ∧ H a = some (.lst vs) ∧ Rs c.K H Z 0 vs ds []
  | .dK kvs => ∃ a ps, x = .ref a ∧ H a = some (.dK ps) ∧ ps.map (·.1) = kvs.map (·.1) ∧ Rs c.K H Z 0 (ps.map (·.2)) (kvs.map (·.2)) []
  | .dT kvs => ∃ a ps, x = .ref a ∧ H a = some (.dT ps) ∧ ps.map (·.1) = kvs.map (·.1) ∧ Rs c.K H Z 0 (ps.map (·.2)) (kvs.map (·.2)) []
  | d => Rep c.K H Z 0 x d []
/-- what comes: the heap has grown; a new list or dict, or what may be shared -/
def Res (c : Cn) (H : Hp) (Z : Zn) (p : Pr) (Q : VK) (d : D) : Prop := ∀ v H', (∀ a o, H a = some o → H' a = some o) → (if fresh p d = true then ∃ a, H a = none ∧ Rep c.K H' Z 1 v d [a] else Rep c.K H' Z 0 v d []) → Q v H'
section
variable {c : Cn} {H H' : Hp} {Z : Zn} {x y : V} {d e : D} {Q : VK} {p : Pr} {vs : List V} {ds : List D}
theorem IV.of0 (h : Rep c.K H Z 0 x d []) : IV c H Z x d := by
  cases d with
  | lst ds => obtain ⟨a, ys, e, h1, _, h2⟩ := h.lst0_inv; exact ⟨a, ys, e, h1, h2⟩
  | dK kvs => obtain ⟨a, ps, e, h1, h2, h3⟩ := h.dK0_inv; exact ⟨a, ps, e, h1, h2, h3⟩
  | dT kvs => obtain ⟨a, ps, e, h1, h2, h3⟩ := h.dT0_inv; exact ⟨a, ps, e, h1, h2, h3⟩
  | non => exact h
  | bl b => exact h
  | int b => exact h
  | str b => exact h
  | tup b => exact h
  | scr b => exact h
theorem IV.flat {z : Rz} (h : Vw c H Z x z) (f : z.flat = true) : IV c H Z x z.dat := by
  cases z with
  | fr d => exact IV.of0 h
  | ow n d =>
    cases n with
    | succ n => cases d <;> simp [Rz.flat] at f
    | zero =>
      obtain ⟨A, h⟩ := h
      cases d with
      | lst ds => obtain ⟨a, ys, G, e, _, h1, h2, _⟩ := h.lst1_inv; exact ⟨a, ys, e, h1, h2.at0⟩
      | dK kvs => obtain ⟨a, ps, G, e, _, h1, h2, h3, _⟩ := h.dK1_inv; exact ⟨a, ps, e, h1, h2, h3.at0⟩
      | dT kvs => obtain ⟨a, ps, G, e, _, h1, h2, h3, _⟩ := h.dT1_inv; exact ⟨a, ps, e, h1, h2, h3.at0⟩
      | _ => simp [Rz.flat] at f
theorem IV.any {z : Rz} (h : Vw c H Z x z) : IV c H (fun _ => True) x z.dat := by
  cases z with
  | fr d => exact IV.of0 (Rs.freeze h (fun _ _ => trivial) fun _ _ => trivial)
  | ow n d => obtain ⟨A, h⟩ := h; exact IV.of0 (Rs.freeze h (fun _ _ => trivial) fun _ _ => trivial)
theorem IV.dp (h : IV c H Z x d) (e : plain d = true) : Dp c.K H x (py d) := by
  cases d with
  | lst ds =>
    obtain ⟨a, vs, rfl, h1, h2⟩ := h
    simp only [py]
    exact .lst (.inl (.inl h1)) (Rs.dp h2 (by simpa [plain] using e))
  | non => exact Rep.dp h e
  | bl b => exact Rep.dp h e
  | int b => exact Rep.dp h e
  | str b => exact Rep.dp h e
  | tup b => exact Rep.dp h e
  | dK b => simp [plain] at e
  | dT b => simp [plain] at e
  | scr b => simp [plain] at e
theorem IV.int {i : Int} (h : IV c H Z x (.int i)) : x = .int i := (Rep.int_inv h).1
theorem IV.str {i : Str} (h : IV c H Z x (.str i)) : x = .str i := (Rep.str_inv h).1
theorem IV.bl {i : Bool} (h : IV c H Z x (.bl i)) : x = .bl i := (Rep.bl_inv h).1
theorem IV.non (h : IV c H Z x .non) : x = .non := (Rep.non_inv h).1
theorem IV.tup (h : IV c H Z x (.tup ds)) : ∃ a vs, x = .ref a ∧ H a = some (.tup vs) ∧ Rs c.K H Z 0 vs ds [] := Rep.tup_inv h

theorem Res.int {i : Int} (r : Res c H Z p Q (.int i)) (f : fresh p (.int i) = false := by rfl) : Q (.int i) H := r _ _ (fun _ _ e => e) (by rw [f]; exact Rs.int i .nil)
theorem Res.bl {i : Bool} (r : Res c H Z p Q (.bl i)) (f : fresh p (.bl i) = false := by rfl) : Q (.bl i) H := r _ _ (fun _ _ e => e) (by rw [f]; exact Rs.bl i .nil)
theorem Res.str {i : Str} (r : Res c H Z p Q (.str i)) (f : fresh p (.str i) = false := by rfl) : Q (.str i) H := r _ _ (fun _ _ e => e) (by rw [f]; exact Rs.str i .nil)
theorem Res.same (r : Res c H Z p Q d) (h : Rep c.K H Z 0 x d []) (f : fresh p d = false) : Q x H := r _ _ (fun _ _ e => e) (by rw [f]; exact h)
theorem grow_upd {a : Addr} {o : HO} (h : H a = none) : ∀ b u, H b = some u → upd H a o b = some u := fun b u e => by
  rw [upd_ne (ne_of_none e h)]; exact e
theorem Rs.grow {K : PySem.W.Frag} {n : Nat} {F : List Addr} (h : Rs K H Z n vs ds F) (k : ∀ a o, H a = some o → H' a = some o) : Rs K H' Z n vs ds F := h.keep (fun a o e _ => k a o e) fun _ h => h
theorem Res.lst {a : Addr} (r : Res c H Z p Q (.lst ds)) (h : Rs c.K H Z 0 vs ds []) (n : H a = none) (f : fresh p (.lst ds) = true := by rfl) : Q (.ref a) (upd H a (.lst vs)) :=
  r _ _ (grow_upd n) (by rw [if_pos f]; exact ⟨a, n, Rep.mk_lst1 upd_same (h.grow (grow_upd n)) (by simp)⟩)
theorem Res.tup {a : Addr} (r : Res c H Z p Q (.tup ds)) (h : Rs c.K H Z 0 vs ds []) (n : H a = none) (f : fresh p (.tup ds) = false := by rfl) : Q (.ref a) (upd H a (.tup vs)) :=
  r _ _ (grow_upd n) (by rw [f]; exact Rep.mk_tup upd_same (h.grow (grow_upd n)))
theorem Res.dK {a : Addr} {ps : List (Key × V)} {kvs : List (Key × D)} (r : Res c H Z p Q (.dK kvs)) (ek : ps.map (·.1) = kvs.map (·.1)) (h : Rs c.K H Z 0 (ps.map (·.2)) (kvs.map (·.2)) []) (n : H a = none) (f : fresh p (.dK kvs) = true := by rfl) : Q (.ref a) (upd H a (.dK ps)) :=
  r _ _ (grow_upd n) (by rw [if_pos f]; exact ⟨a, n, Rep.mk_dK1 upd_same ek (h.grow (grow_upd n)) (by simp)⟩)
theorem Res.dT {a : Addr} {ps : List (List Key × V)} {kvs : List (List Key × D)} (r : Res c H Z p Q (.dT kvs)) (ek : ps.map (·.1) = kvs.map (·.1)) (h : Rs c.K H Z 0 (ps.map (·.2)) (kvs.map (·.2)) []) (n : H a = none) (f : fresh p (.dT kvs) = true := by rfl) : Q (.ref a) (upd H a (.dT ps)) :=
  r _ _ (grow_upd n) (by rw [if_pos f]; exact ⟨a, n, Rep.mk_dT1 upd_same ek (h.grow (grow_upd n)) (by simp)⟩)
end

/-- an operation on two values -/
def r2 (c : Cn) (p : Pr) : R2 := fun x y H Q => ∃ Z d e, IV c H Z x d ∧ IV c H Z y e ∧ pw p [d, e] (Res c H Z p Q)
def r1 (c : Cn) (p : Pr) : V → Hp → VK → Prop := fun x H Q => ∃ Z d, IV c H Z x d ∧ pw p [d] (Res c H Z p Q)
/-- several -/
inductive IVs (c : Cn) (H : Hp) (Z : Zn) : List V → List D → Prop
  | nil : IVs c H Z [] []
  | cons {x : V} {d : D} {xs : List V} {ds : List D} : IV c H Z x d → IVs c H Z xs ds → IVs c H Z (x :: xs) (d :: ds)
def rn (c : Cn) (p : Pr) : List V → Hp → VK → Prop := fun xs H Q => ∃ Z ds, IVs c H Z xs ds ∧ pw p ds (Res c H Z p Q)
theorem nil_of_len {α β : Type} {xs : List α} {ys : List β} (h : xs.length = ys.length) (e : ys = []) : xs = [] := by subst e; exact List.length_eq_zero_iff.mp h

section
variable {X : Cx} {c : Cn}
theorem o2_sub : OpR X (binaryOp .Sub) (r2 c .sub) := by
  intro pn0 s σ H x y v u Q I rx ry h
  obtain ⟨Z, d, e, hx, hy, h⟩ := h
  simp only [pw] at h; unfold p2I at h; split at h
  · have ex := hx.int; have ey := hy.int; subst ex ey
    exact op_sub pn0 s σ H _ _ v u Q I rx ry ⟨_, _, rfl, rfl, h.2.int⟩
  · exact h.elim
theorem o2_add (hK : c.K = X.K) : OpR X (binaryOp .Add) (r2 c .add) := by
  intro pn0 s σ H x y v u Q I rx ry h
  obtain ⟨Z, d, e, hx, hy, h⟩ := h
  simp only [pw] at h; unfold pAdd at h; split at h
  · have ex := hx.int; have ey := hy.int; subst ex ey
    exact op_add pn0 s σ H _ _ v u Q I rx ry ⟨_, _, rfl, rfl, h.int⟩
  · have ex := hx.str; have ey := hy.str; subst ex ey
    exact op_add_str pn0 s σ H _ _ v u Q I rx ry ⟨_, _, rfl, rfl, h.1, h.2.str⟩
  · rename_i xs ys
    obtain ⟨a, vs, rfl, h1, r1⟩ := hx.tup
    obtain ⟨b, ws, rfl, h2, r2⟩ := hy.tup
    have l1 := r1.length
    have l2 := r2.length
    refine op_catA pn0 s σ H _ _ v u Q I rx ry ⟨a, b, vs, ws, rfl, rfl, SqT.of h1, SqT.of h2, by rw [l1, l2]; exact h.1, fun e => ?_, fun _ e => ?_, fun _ _ q hq => h.2.tup (r1.append0 r2) hq⟩
    · have : xs = [] := nil_of_len l1.symm e
      subst this
      exact h.2.same (Rep.mk_tup h2 (by simpa using r2)) rfl
    · have : ys = [] := nil_of_len l2.symm e
      subst this
      exact h.2.same (Rep.mk_tup h1 (by simpa using r1)) rfl
  · rename_i xs ys
    obtain ⟨a, vs, rfl, h1, r1⟩ := hx
    obtain ⟨b, ws, rfl, h2, r2⟩ := hy
    exact op_cat pn0 s σ H _ _ v u Q I rx ry ⟨a, b, vs, ws, rfl, rfl, h1, h2, by rw [r1.length, r2.length]; exact h.1, fun q hq => h.2.lst (r1.append0 r2) hq⟩
  · exact h.elim
theorem o2_mul : OpR X (binaryOp .Mult) (r2 c .mul) := by
  intro pn0 s σ H x y v u Q I rx ry h
  obtain ⟨Z, d, e, hx, hy, h⟩ := h
  simp only [pw] at h; unfold pMul at h; split at h
  · have ex := hx.int; have ey := hy.int; subst ex ey
    rcases h.1 with k | k
    · exact op_mul pn0 s σ H _ _ v u Q I rx ry ⟨_, _, rfl, rfl, k, h.2.int⟩
    · exact op_mulW pn0 s σ H _ _ v u Q I rx ry ⟨_, _, rfl, rfl, k, h.2.int⟩
  · obtain ⟨a, vs, rfl, h1, r1⟩ := hx
    have ey := hy.int; subst ey
    exact op_rep pn0 s σ H _ _ v u Q I rx ry ⟨a, _, vs, rfl, rfl, h1, h.1, h.2.1, by rw [r1.length]; exact h.2.2.1, fun q hq => h.2.2.2.lst (r1.rep0 _) hq⟩
  · exact h.elim
theorem o2_fdiv : OpR X (binaryOp .FloorDiv) (r2 c .fdiv) := by
  intro pn0 s σ H x y v u Q I rx ry h
  obtain ⟨Z, d, e, hx, hy, h⟩ := h
  simp only [pw] at h; unfold p2I at h; split at h
  · have ex := hx.int; have ey := hy.int; subst ex ey
    exact op_fdivW pn0 s σ H _ _ v u Q I rx ry ⟨_, _, rfl, rfl, h.1, h.2.int⟩
  · exact h.elim
theorem o2_mod : OpR X (binaryOp .Mod) (r2 c .mod) := by
  intro pn0 s σ H x y v u Q I rx ry h
  obtain ⟨Z, d, e, hx, hy, h⟩ := h
  simp only [pw] at h; unfold p2I at h; split at h
  · have ex := hx.int; have ey := hy.int; subst ex ey
    exact op_mod pn0 s σ H _ _ v u Q I rx ry ⟨_, _, rfl, rfl, h.1, h.2.int⟩
  · exact h.elim
theorem o2_pow : OpR X (binaryOp .Pow) (r2 c .pow) := by
  intro pn0 s σ H x y v u Q I rx ry h
  obtain ⟨Z, d, e, hx, hy, h⟩ := h
  simp only [pw] at h; unfold p2I at h; split at h
  · have ex := hx.int; have ey := hy.int; subst ex ey
    exact op_pow pn0 s σ H _ _ v u Q I rx ry ⟨_, _, rfl, rfl, h.1, h.2.int⟩
  · exact h.elim
theorem u_neg : UnR X (unaryOp .USub) (r1 c .neg) := by
  intro pn0 s σ H x v Q I rx h
  obtain ⟨Z, d, hx, h⟩ := h
  cases d <;> try exact h.elim
  rename_i i
  have ex := hx.int; subst ex
  exact un_neg pn0 s σ H _ v Q I rx ⟨_, rfl, Res.int h⟩
theorem cmpI {op : CmpOp} {p : Pr} {g : Int → Int → Bool} (ho : OpR X (compareOp op) (rI0 fun i j => .bl (g i j))) (hp : ∀ d e R, pw p [d, e] R = p2I (fun _ _ => True) (fun i j => .bl (g i j)) d e R) (hf : ∀ b, fresh p (.bl b) = false) : OpR X (compareOp op) (r2 c p) := by
  intro pn0 s σ H x y v u Q I rx ry h
  obtain ⟨Z, d, e, hx, hy, h⟩ := h
  rw [hp] at h; unfold p2I at h; split at h
  · have ex := hx.int; have ey := hy.int; subst ex ey
    exact ho pn0 s σ H _ _ v u Q I rx ry ⟨_, _, rfl, rfl, h.2.bl (hf _)⟩
  · exact h.elim
theorem o2_le : OpR X (compareOp .LtE) (r2 c .le) := cmpI op_le (fun _ _ _ => rfl) fun _ => rfl
theorem o2_gt : OpR X (compareOp .Gt) (r2 c .gt) := cmpI op_gt (fun _ _ _ => rfl) fun _ => rfl
theorem o2_ge : OpR X (compareOp .GtE) (r2 c .ge) := cmpI op_ge (fun _ _ _ => rfl) fun _ => rfl
theorem o2_lt (hu : X.A.units + 65 < cLine) : OpR X (compareOp .Lt) (r2 c .lt) := by
  intro pn0 s σ H x y v u Q I rx ry h
  obtain ⟨Z, d, e, hx, hy, h⟩ := h
  simp only [pw] at h; unfold pLt at h; split at h
  · have ex := hx.int; have ey := hy.int; subst ex ey
    exact op_lt pn0 s σ H _ _ v u Q I rx ry ⟨_, _, rfl, rfl, h.bl⟩
  · have ex := hx.str; have ey := hy.str; subst ex ey
    exact op_lt_str pn0 s σ H _ _ v u Q I rx ry ⟨_, _, rfl, rfl, h.bl⟩
  · obtain ⟨ns, ms, rfl, rfl, h⟩ := h
    obtain ⟨a, vs, rfl, h1, r1⟩ := hx.tup
    obtain ⟨b, ws, rfl, h2, r2⟩ := hy.tup
    have e1 := r1.ints; have e2 := r2.ints; subst e1 e2
    exact op_ltT (by omega) pn0 s σ H _ _ v u Q I rx ry ⟨a, b, ns, ms, rfl, rfl, SqT.of h1, SqT.of h2, h.bl⟩
  · exact h.elim
theorem o2_eq (hK : c.K = X.K) (hu : X.A.units + 65 < cLine) : OpR X (compareOp .Eq) (r2 c .eq) := by
  intro pn0 s σ H x y v u Q I rx ry h
  obtain ⟨Z, d, e, hx, hy, h⟩ := h
  simp only [pw] at h; unfold pEq at h
  obtain ⟨h0, h5⟩ := h
  unfold eqOk at h0
  rcases Bool.or_eq_true_iff.mp h0 with h0 | h0
  · split at h0
    · rename_i a b
      have e1 := hx.str; subst e1
      have e2 := hy.str; subst e2
      refine op_eq pn0 s σ H _ _ v u Q I rx ry ⟨rfl, ?_⟩
      rw [dec_str]
      exact h5.bl
    · cases h0
  · simp only [Bool.and_eq_true] at h0
    exact op_eqD (by omega) pn0 s σ H x y v u Q I rx ry ⟨py d, py e, hK ▸ hx.dp h0.1.1.1, hK ▸ hy.dp h0.1.1.2, h0.1.2, h0.2, h5.bl⟩
theorem o2_ne (hK : c.K = X.K) (hu : X.A.units + 65 < cLine) : OpR X (compareOp .NotEq) (r2 c .ne) := by
  intro pn0 s σ H x y v u Q I rx ry h
  obtain ⟨Z, d, e, hx, hy, h⟩ := h
  simp only [pw] at h; unfold pEq at h
  obtain ⟨h0, h5⟩ := h
  unfold eqOk at h0
  rcases Bool.or_eq_true_iff.mp h0 with h0 | h0
  · split at h0
    · rename_i a b
      have e1 := hx.str; subst e1
      have e2 := hy.str; subst e2
      refine op_ne pn0 s σ H _ _ v u Q I rx ry ⟨rfl, ?_⟩
      rw [dec_str]
      exact h5.bl
    · cases h0
  · simp only [Bool.and_eq_true] at h0
    exact op_neD (by omega) pn0 s σ H x y v u Q I rx ry ⟨py d, py e, hK ▸ hx.dp h0.1.1.1, hK ▸ hy.dp h0.1.1.2, h0.1.2, h0.2, h5.bl⟩
theorem rep_non {H : Hp} {Z : Zn} {x : V} {d : D} (h : IV c H Z x d) : decide (x = .non) = isNon d := by
  cases d with
  | non => have := h.non; subst this; rfl
  | bl b => have := h.bl; subst this; rfl
  | int b => have := h.int; subst this; rfl
  | str b => have := h.str; subst this; rfl
  | tup b => obtain ⟨a, vs, rfl, _⟩ := h.tup; rfl
  | lst b => obtain ⟨a, vs, rfl, _⟩ := h; rfl
  | dK b => obtain ⟨a, vs, rfl, _⟩ := h; rfl
  | dT b => obtain ⟨a, vs, rfl, _⟩ := h; rfl
  | scr b => obtain ⟨a, rfl, _⟩ := Rep.scr_inv h; rfl
theorem o2_is : OpR X (compareOp .Is) (r2 c .is_) := by
  intro pn0 s σ H x y v u Q I rx ry h
  obtain ⟨Z, d, e, hx, hy, h⟩ := h
  simp only [pw] at h; unfold pIs at h; split at h
  · have ey := hy.non; subst ey
    refine op_isN pn0 s σ H _ _ v u Q I rx ry ⟨rfl, ?_⟩
    rw [rep_non hx]
    exact Res.bl h
  · split at h
    · have ex := hx.bl; have ey := hy.bl; subst ex ey
      exact op_isBl pn0 s σ H _ _ v u Q I rx ry ⟨_, _, rfl, rfl, h.bl⟩
    · exact h.elim
  · exact h.elim
theorem o2_isn : OpR X (compareOp .IsNot) (r2 c .isn) := by
  intro pn0 s σ H x y v u Q I rx ry h
  obtain ⟨Z, d, e, hx, hy, h⟩ := h
  simp only [pw] at h; unfold pIs at h; split at h
  · have ey := hy.non; subst ey
    refine op_notN pn0 s σ H _ _ v u Q I rx ry ⟨rfl, ?_⟩
    rw [rep_non hx]
    exact Res.bl h
  · split at h
    · have ex := hx.bl; have ey := hy.bl; subst ex ey
      exact op_notBl pn0 s σ H _ _ v u Q I rx ry ⟨_, _, rfl, rfl, h.bl⟩
    · exact h.elim
  · exact h.elim
end
end DL
end
section
set_option Elab.async false
set_option linter.all false
set_option maxRecDepth 100000
set_option maxHeartbeats 3900000
/-! DL6: the operations, further. -/
namespace DL
open PySem PySem.Spec L2

theorem pIdx_int {xs : List D} {i : Int} {R : D → Prop} : pIdx (.lst xs) (.int i) R = ∃ d, atI xs i = some d ∧ R d := rfl
section
variable {c : Cn} {H : Hp} {Z : Zn}
theorem Rs.atI0 {vs : List V} {ds : List D} {F : List Addr} {i : Int} {d : D} (h : Rs c.K H Z 0 vs ds F) (e : atI ds i = some d) : ∃ v, atI vs i = some v ∧ Rep c.K H Z 0 v d [] := by
  unfold atI at e ⊢
  rw [h.length]
  cases q : ixN ds.length i with
  | none => rw [q] at e; exact nomatch e
  | some j =>
    rw [q] at e
    obtain ⟨v, h1, h2⟩ := h.at e
    exact ⟨v, h1, h2⟩
/-- what is kept under a key -/
theorem look_val {κ : Type} [DecidableEq κ] {k : κ} : ∀ {ps : List (κ × V)} {kvs : List (κ × D)} {F : List Addr}, ps.map (·.1) = kvs.map (·.1) → Rs c.K H Z 0 (ps.map (·.2)) (kvs.map (·.2)) F →
    (∀ d, look kvs k = some d → ∃ v, valV ps k = some v ∧ Rep c.K H Z 0 v d []) ∧ (look kvs k).isSome = (valV ps k).isSome
  | [], [], _, _, _ => ⟨fun d e => (by cases e), rfl⟩
  | [], _ :: _, _, e, _ => by cases e
  | _ :: _, [], _, e, _ => by cases e
  | (k1, v) :: ps, (k2, d) :: kvs, F, e, r => by
    have e1 : k1 = k2 := by simpa using (List.cons.inj e).1
    have e2 : ps.map (·.1) = kvs.map (·.1) := (List.cons.inj e).2
    subst e1
    obtain ⟨r1, r2⟩ := Rs.cons0_inv (F := F) (vs := ps.map (·.2)) (ds := kvs.map (·.2)) r
    have ih := look_val (k := k) e2 r2
    by_cases hk : k1 = k
    · have l1 : look ((k1, d) :: kvs) k = some d := by simp [look, List.find?_cons, hk]
      have l2 : valV ((k1, v) :: ps) k = some v := valV_pos hk
      rw [l1, l2]
      exact ⟨fun d' e => by cases e; exact ⟨v, rfl, r1⟩, rfl⟩
    · have l1 : look ((k1, d) :: kvs) k = look kvs k := by simp [look, List.find?_cons, hk]
      have l2 : valV ((k1, v) :: ps) k = valV ps k := valV_neg hk
      rw [l1, l2]
      exact ih
theorem keyOf_val {x : V} {d : D} {k : Key} (h : IV c H Z x d) (e : keyOf d = some k) : x = kV k := by
  cases d <;> simp only [keyOf] at e <;> try cases e
  · exact h.int
  · exact h.str
theorem keysOf_val {xs : List V} {ds : List D} {ks : List Key} {n : Nat} {F : List Addr} (h : Rs c.K H Z n xs ds F) (e : keysOf ds = some ks) : xs = ks.map kV := by
  induction h generalizing ks with -- item by item
  | nil => cases e; rfl
  | int i _ ih =>
    simp only [keysOf, keyOf] at e
    split at e
    · rename_i k ks' h1 h2; cases h1; cases e; rw [List.map_cons, ← ih h2]; rfl
    · cases e
  | str i _ ih =>
    simp only [keysOf, keyOf] at e
    split at e
    · rename_i k ks' h1 h2; cases h1; cases e; rw [List.map_cons, ← ih h2]; rfl
    · cases e
  | _ => simp [keysOf, keyOf] at e
/-- reading a dict -/
theorem dget_of {x y : V} {d k : D} {o : Option D} (hx : IV c H Z x d) (hy : IV c H Z y k)
    (h : (∃ kvs k', d = .dK kvs ∧ keyOf k = some k' ∧ o = look kvs k') ∨ (∃ kvs ks k', d = .dT kvs ∧ k = .tup ks ∧ keysOf ks = some k' ∧ o = look kvs k')) :
    ∃ a r, x = .ref a ∧ DGet H a y r ∧ o.isSome = r.isSome ∧ ∀ d, o = some d → ∃ v, r = some v ∧ Rep c.K H Z 0 v d [] := by
  rcases h with ⟨kvs, k', rfl, e1, rfl⟩ | ⟨kvs, ks, k', rfl, rfl, e1, rfl⟩
  · obtain ⟨a, ps, rfl, h1, h2, h3⟩ := hx
    have := keyOf_val hy e1
    subst this
    obtain ⟨l1, l2⟩ := look_val (k := k') h2 h3
    exact ⟨a, _, rfl, DGet.k h1, l2, l1⟩
  · obtain ⟨a, ps, rfl, h1, h2, h3⟩ := hx
    obtain ⟨b, vs, rfl, h4, h5⟩ := hy.tup
    have := keysOf_val h5 e1
    subst this
    obtain ⟨l1, l2⟩ := look_val (k := k') h2 h3
    exact ⟨a, _, rfl, DGet.t h1 h4, l2, l1⟩
end
section
variable {X : Cx} {c : Cn}
theorem o2_idx (hu : X.A.units + 65 < cLine) : IxR X (r2 c .idx) := by
  intro value slice pn0 s σ H x y v u Q I rx ry h hs
  obtain ⟨Z, d, e, hx, hy, h⟩ := h
  simp only [pw] at h
  have dct : ∀ {o d'}, ((∃ kvs k', d = .dK kvs ∧ keyOf e = some k' ∧ o = look kvs k') ∨ (∃ kvs ks k', d = .dT kvs ∧ e = .tup ks ∧ keysOf ks = some k' ∧ o = look kvs k')) → o = some d' → Res c H Z .idx Q d' →
      wpAny (model X.prog X.w) X.A (PyProof.Rows.subscriptTail value slice v u) (EP X pn0 σ Q) X.xe s := fun {o d'} hd ho hr => by
    obtain ⟨a, r, rfl, g, _, l⟩ := dget_of hx hy hd
    obtain ⟨w', rfl, r1⟩ := l d' ho
    obtain rfl : v = .ref a := rx
    exact PyProof.Rows.tail_any (dict_typeIs I g) PySem.F.slot_dict_getitem.lookup (d_getItem (by omega) I g ry fun w2 s2 I2 r2 => ⟨w', H, I2, r2, hr.same r1 rfl⟩) hs
  unfold pIdx at h; split at h
  · obtain ⟨d, e1, h⟩ := h
    obtain ⟨a, vs, rfl, h1, r1⟩ := hx
    have ey := hy.int; subst ey
    obtain ⟨w', e2, r2⟩ := r1.atI0 e1
    exact ix_list value slice pn0 s σ H _ _ v u Q I rx ry ⟨a, vs, _, w', rfl, rfl, .inl (.inl h1), e2, h.same r2 rfl⟩ hs
  · obtain ⟨d, e1, h⟩ := h
    obtain ⟨a, vs, rfl, h1, r1⟩ := hx.tup
    have ey := hy.int; subst ey
    obtain ⟨w', e2, r2⟩ := r1.atI0 e1
    exact ix_tup value slice pn0 s σ H _ _ v u Q I rx ry ⟨a, vs, _, w', rfl, rfl, SqT.of h1, e2, h.same r2 rfl⟩ hs
  · obtain ⟨hl, z, e1, h⟩ := h
    have ex := hx.str; have ey := hy.int; subst ex ey
    exact ix_str value slice pn0 s σ H _ _ v u Q I rx ry ⟨_, _, z, rfl, rfl, hl, e1, h.str⟩ hs
  · obtain ⟨k, d, e1, e2, h⟩ := h
    exact dct (.inl ⟨_, k, rfl, e1, rfl⟩) e2 h
  · obtain ⟨k, d, e1, e2, h⟩ := h
    exact dct (.inr ⟨_, _, k, rfl, rfl, e1, rfl⟩) e2 h
  · exact h.elim
theorem flat_of {c : Cn} {H : Hp} {Z : Zn} {x : V} {d : D} (h : IV c H Z x d) (f : pIn.flatD d = true) : flatV x = true ∧ ∀ {y : V} {e : D}, IV c H Z y e → pIn.flatD e = true → eqV y x = PyData.eqv (py e) (py d) := by
  have key : ∀ {y : V} {e : D}, IV c H Z y e → pIn.flatD e = true → (e = .non ∧ y = .non) ∨ (∃ b, e = .bl b ∧ y = .bl b) ∨ (∃ i, e = .int i ∧ y = .int i) ∨ ∃ z, e = .str z ∧ y = .str z := fun {y e} h f => by
    cases e <;> simp [pIn.flatD] at f
    · exact .inl ⟨rfl, h.non⟩
    · exact .inr (.inl ⟨_, rfl, h.bl⟩)
    · exact .inr (.inr (.inl ⟨_, rfl, h.int⟩))
    · exact .inr (.inr (.inr ⟨_, rfl, h.str⟩))
  rcases key h f with ⟨rfl, rfl⟩ | ⟨b, rfl, rfl⟩ | ⟨b, rfl, rfl⟩ | ⟨b, rfl, rfl⟩ <;> refine ⟨rfl, fun {y e} h2 f2 => ?_⟩ <;>
    rcases key h2 f2 with ⟨rfl, rfl⟩ | ⟨b2, rfl, rfl⟩ | ⟨b2, rfl, rfl⟩ | ⟨b2, rfl, rfl⟩ <;> simp [eqV, py, PyData.eqv]
theorem any_flat {c : Cn} {H : Hp} {Z : Zn} {x : V} {d : D} (h : IV c H Z x d) (f : pIn.flatD d = true) : ∀ {vs : List V} {ds : List D} {F : List Addr}, Rs c.K H Z 0 vs ds F → ds.all pIn.flatD = true →
    vs.all flatV = true ∧ inV x vs = (pys ds).any fun z => PyData.eqv z (py d)
  | [], [], _, _, _ => ⟨rfl, rfl⟩
  | [], _ :: _, _, r, _ => by have := r.length; cases this
  | _ :: _, [], _, r, _ => by have := r.length; cases this
  | v :: vs, e :: ds, F, r, q => by
    rw [List.all_cons, Bool.and_eq_true] at q
    obtain ⟨r1, r2⟩ := r.cons0_inv
    obtain ⟨i1, i2⟩ := any_flat h f r2 q.2
    have hv := flat_of (IV.of0 r1) q.1
    refine ⟨by rw [List.all_cons, hv.1, i1]; rfl, ?_⟩
    have e2 := (flat_of h f).2 (IV.of0 r1) q.1
    unfold inV at i2 ⊢
    simp only [List.any_cons, pys, e2, i2]
theorem o2_in (hK : c.K = X.K) (hu : X.A.units + 65 < cLine) : OpR X (compareOp .In) (r2 c .in_) := by
  intro pn0 s σ H x y v u Q I rx ry h
  obtain ⟨Z, d, e, hx, hy, h⟩ := h
  simp only [pw] at h
  unfold pIn at h; split at h
  · obtain ⟨h1, h2, h3, h4, h5⟩ := h
    rename_i R ys
    exact op_inD hu pn0 s σ H x y v u Q I rx ry ⟨_, pys ys, hK ▸ hx.dp h1, hK ▸ (by have := IV.dp hy (show plain (.lst ys) = true by simpa [plain] using h2); simpa [py] using this), h3, h4, h5.bl⟩
  · obtain ⟨h1, h2, h3⟩ := h
    obtain ⟨a, vs, rfl, h4, r1⟩ := hy.tup
    obtain ⟨f1, f2⟩ := any_flat hx h1 r1 h2
    refine op_in_seq pn0 s σ H x _ v u Q I rx ry ⟨a, vs, rfl, .inr (SqT.of h4), (flat_of hx h1).1, f1, ?_⟩
    have := Res.bl h3
    rw [if_neg (by decide)] at this ⊢
    rw [f2]; exact this
  · obtain ⟨k, e1, h⟩ := h
    obtain ⟨a, r, rfl, g, l, _⟩ := dget_of hy hx (.inl ⟨_, k, rfl, e1, rfl⟩)
    obtain rfl : u = .ref a := ry
    exact d_in (by omega) I g rx fun s2 I2 => ⟨.bl r.isSome, H, I2, rfl, by rw [← l]; exact Res.bl h⟩
  · obtain ⟨k, e1, h⟩ := h
    obtain ⟨a, r, rfl, g, l, _⟩ := dget_of hy hx (.inr ⟨_, _, k, rfl, rfl, e1, rfl⟩)
    obtain rfl : u = .ref a := ry
    exact d_in (by omega) I g rx fun s2 I2 => ⟨.bl r.isSome, H, I2, rfl, by rw [← l]; exact Res.bl h⟩
  · exact h.elim
theorem o2_nin (hK : c.K = X.K) (hu : X.A.units + 65 < cLine) : OpR X (compareOp .NotIn) (r2 c .nin) := by
  intro pn0 s σ H x y v u Q I rx ry h
  obtain ⟨Z, d, e, hx, hy, h⟩ := h
  simp only [pw] at h
  unfold pIn at h; split at h
  · obtain ⟨h1, h2, h3, h4, h5⟩ := h
    rename_i R ys
    exact op_notInD hu pn0 s σ H x y v u Q I rx ry ⟨_, pys ys, hK ▸ hx.dp h1, hK ▸ (by have := IV.dp hy (show plain (.lst ys) = true by simpa [plain] using h2); simpa [py] using this), h3, h4, h5.bl⟩
  · obtain ⟨h1, h2, h3⟩ := h
    obtain ⟨a, vs, rfl, h4, r1⟩ := hy.tup
    obtain ⟨f1, f2⟩ := any_flat hx h1 r1 h2
    refine op_notIn_seq pn0 s σ H x _ v u Q I rx ry ⟨a, vs, rfl, .inr (SqT.of h4), (flat_of hx h1).1, f1, ?_⟩
    have := Res.bl h3
    rw [if_pos rfl] at this ⊢
    rw [f2]; exact this
  · obtain ⟨k, e1, h⟩ := h
    obtain ⟨a, r, rfl, g, l, _⟩ := dget_of hy hx (.inl ⟨_, k, rfl, e1, rfl⟩)
    obtain rfl : u = .ref a := ry
    exact d_notIn (by omega) I g rx fun s2 I2 => ⟨.bl (!r.isSome), H, I2, rfl, by rw [← l]; exact Res.bl h⟩
  · obtain ⟨k, e1, h⟩ := h
    obtain ⟨a, r, rfl, g, l, _⟩ := dget_of hy hx (.inr ⟨_, _, k, rfl, rfl, e1, rfl⟩)
    obtain rfl : u = .ref a := ry
    exact d_notIn (by omega) I g rx fun s2 I2 => ⟨.bl (!r.isSome), H, I2, rfl, by rw [← l]; exact Res.bl h⟩
  · exact h.elim

/-! ### slices -/
def rSlc (c : Cn) (p : Pr) : V → Option Int → Option Int → Hp → VK → Prop := fun x lo hi H Q => ∃ Z d, IV c H Z x d ∧ pSl lo hi d (Res c H Z p Q)
theorem cut_rs {c : Cn} {H : Hp} {Z : Zn} {vs : List V} {ds : List D} {F : List Addr} (h : Rs c.K H Z 0 vs ds F) (lo hi : Option Int) : Rs c.K H Z 0 (cutV vs lo hi) (cut ds lo hi) [] := by
  unfold cutV cut
  rw [h.length]
  exact (h.drop0 _).take0 _
theorem cut_whole {ds : List D} {lo hi : Option Int} (h : HT.sIx ds.length 0 lo = 0 ∧ HT.sIx ds.length ds.length hi = ds.length) : cut ds lo hi = ds := by
  unfold cut; rw [h.1, h.2]; simp
theorem sl_any (hK : c.K = X.K) {p : Pr} (hp : ∀ ds, fresh p (.lst ds) = true) (hp2 : ∀ ds, fresh p (.tup ds) = false) : SlR X (rSlc c p) := by
  intro pn0 s σ H x v vl vu lo hi sl Q I rx hs pl pu h
  obtain ⟨Z, d, hx, h⟩ := h
  unfold pSl at h; split at h
  · obtain ⟨a, vs, rfl, h1, r1⟩ := hx
    exact sl_list pn0 s σ H _ v vl vu lo hi sl Q I rx hs pl pu ⟨a, vs, rfl, .inl (.inl h1), fun q hq => h.lst (cut_rs r1 lo hi) hq (hp _)⟩
  · obtain ⟨a, vs, rfl, h1, r1⟩ := hx.tup
    refine sl_tupA pn0 s σ H _ v vl vu lo hi sl Q I rx hs pl pu ⟨a, vs, rfl, SqT.of h1, fun hw => ?_, fun _ q hq => h.tup (cut_rs r1 lo hi) hq (hp2 _)⟩
    rw [r1.length] at hw
    rw [cut_whole hw] at h
    exact h.same (Rep.mk_tup h1 r1) (hp2 _)
  · obtain ⟨a, rfl, _, h1⟩ := Rep.scr_inv hx
    refine sl_list pn0 s σ H _ v vl vu lo hi sl Q I rx hs pl pu ⟨a, _, rfl, hK ▸ h1.sq, fun q hq => h.lst (cut_rs (Rs.of_ints _) lo hi) hq (hp _)⟩
  · exact h.elim

/-! ### builtins -/
theorem ivs1 {c : Cn} {H : Hp} {Z : Zn} {xs : List V} {d : D} (h : IVs c H Z xs [d]) : ∃ x, xs = [x] ∧ IV c H Z x d := by
  cases h with
  | cons h t => cases t; exact ⟨_, rfl, h⟩
theorem ivs2 {c : Cn} {H : Hp} {Z : Zn} {xs : List V} {d e : D} (h : IVs c H Z xs [d, e]) : ∃ x y, xs = [x, y] ∧ IV c H Z x d ∧ IV c H Z y e := by
  cases h with
  | cons h t => cases t with
    | cons h2 t => cases t; exact ⟨_, _, rfl, h, h2⟩
theorem ivs0 {c : Cn} {H : Hp} {Z : Zn} {xs : List V} (h : IVs c H Z xs []) : xs = [] := by cases h; rfl
theorem c_len (hK : c.K = X.K) : CallR X (.builtin "len") (rn c .len) := by
  intro pn0 s σ H xs us Q I r h
  obtain ⟨Z, ds, hs, h⟩ := h
  unfold pw at h; split at h <;> (try contradiction) <;> rename_i heq <;> (try cases heq)
  · obtain ⟨x, rfl, hx⟩ := ivs1 hs
    unfold pLen at h; split at h
    · obtain ⟨a, vs, rfl, h1, r1⟩ := hx
      refine call_len_seq pn0 s σ H _ us Q I r ⟨a, vs, rfl, .inl (.inl (.inl h1)), ?_⟩
      rw [r1.length]; exact h.int
    · obtain ⟨a, vs, rfl, h1, r1⟩ := hx.tup
      refine call_len_seq pn0 s σ H _ us Q I r ⟨a, vs, rfl, .inr (SqT.of h1), ?_⟩
      rw [r1.length]; exact h.int
    · have ex := hx.str; subst ex
      exact call_len_str pn0 s σ H _ us Q I r ⟨_, rfl, h.1, h.2.int⟩
    · rename_i kvs
      obtain ⟨a, ps, rfl, h1, e, r1⟩ := hx
      refine call_lenD pn0 s σ H _ us Q I r ⟨a, ps, rfl, h1, ?_⟩
      have : ps.length = kvs.length := by simpa using congrArg List.length e
      rw [this]; exact h.int
    · rename_i kvs
      obtain ⟨a, ps, rfl, h1, e, r1⟩ := hx
      refine call_len_dT pn0 s σ H _ us Q I r ⟨a, ps, rfl, h1, ?_⟩
      have : ps.length = kvs.length := by simpa using congrArg List.length e
      rw [this]; exact h.int
    · obtain ⟨a, rfl, _, h1⟩ := Rep.scr_inv hx
      refine call_len_seq pn0 s σ H _ us Q I r ⟨a, _, rfl, .inl (hK ▸ h1.sq), ?_⟩
      rw [List.length_map]; exact h.int
    · exact h.elim
theorem c_abs : CallR X (.builtin "abs") (rn c .abs) := by
  intro pn0 s σ H xs us Q I r h
  obtain ⟨Z, ds, hs, h⟩ := h
  unfold pw at h; split at h <;> (try contradiction) <;> rename_i heq <;> (try cases heq)
  obtain ⟨x, rfl, hx⟩ := ivs1 hs
  have ex := hx.int; subst ex
  exact call_abs pn0 s σ H _ us Q I r ⟨_, rfl, Res.int h⟩
theorem c_min2 (hc : X.calm = true) : CallR X (.builtin "min") (rn c .min2) := by
  intro pn0 s σ H xs us Q I r h
  obtain ⟨Z, ds, hs, h⟩ := h
  unfold pw at h; split at h <;> (try contradiction) <;> rename_i heq <;> (try cases heq)
  obtain ⟨x, y, rfl, hx, hy⟩ := ivs2 hs
  have ex := hx.int; have ey := hy.int; subst ex ey
  exact call_min2 hc pn0 s σ H _ us Q I r ⟨_, _, rfl, Res.int h⟩
theorem c_max2 (hc : X.calm = true) : CallR X (.builtin "max") (rn c .max2) := by
  intro pn0 s σ H xs us Q I r h
  obtain ⟨Z, ds, hs, h⟩ := h
  unfold pw at h; split at h <;> (try contradiction) <;> rename_i heq <;> (try cases heq)
  obtain ⟨x, y, rfl, hx, hy⟩ := ivs2 hs
  have ex := hx.int; have ey := hy.int; subst ex ey
  exact call_max2 hc pn0 s σ H _ us Q I r ⟨_, _, rfl, Res.int h⟩
theorem ints_of {H : Hp} {Z : Zn} {x : V} {d : D} {k : List Int → Prop} (h : IV c H Z x d) (q : pInts d k) : ∃ a ns, x = .ref a ∧ H a = some (.lst (ns.map V.int)) ∧ k ns := by
  unfold pInts at q; split at q
  · obtain ⟨ns, rfl, q⟩ := q
    obtain ⟨a, vs, rfl, h1, r1⟩ := h
    have := r1.ints; subst this
    exact ⟨a, ns, rfl, h1, q⟩
  · exact q.elim
theorem c_minL (hc : X.calm = true) : CallR X (.builtin "min") (rn c .minL) := by
  intro pn0 s σ H xs us Q I r h
  obtain ⟨Z, ds, hs, h⟩ := h
  unfold pw at h; split at h <;> (try contradiction) <;> rename_i heq <;> (try cases heq)
  obtain ⟨x, rfl, hx⟩ := ivs1 hs
  obtain ⟨a, ns, rfl, h1, h0, h⟩ := ints_of hx h
  exact cr_min hc pn0 s σ H _ us Q I r ⟨a, ns, rfl, .inl (.inl h1), h0, fun m m1 m2 => Res.int (h m m1 m2)⟩
theorem c_maxL (hc : X.calm = true) : CallR X (.builtin "max") (rn c .maxL) := by
  intro pn0 s σ H xs us Q I r h
  obtain ⟨Z, ds, hs, h⟩ := h
  unfold pw at h; split at h <;> (try contradiction) <;> rename_i heq <;> (try cases heq)
  obtain ⟨x, rfl, hx⟩ := ivs1 hs
  obtain ⟨a, ns, rfl, h1, h0, h⟩ := ints_of hx h
  exact cr_max hc pn0 s σ H _ us Q I r ⟨a, ns, rfl, .inl (.inl h1), h0, fun m m1 m2 => Res.int (h m m1 m2)⟩
theorem c_sum (hc : X.calm = true) : CallR X (.builtin "sum") (rn c .sum) := by
  intro pn0 s σ H xs us Q I r h
  obtain ⟨Z, ds, hs, h⟩ := h
  unfold pw at h; split at h <;> (try contradiction) <;> rename_i heq <;> (try cases heq)
  obtain ⟨x, rfl, hx⟩ := ivs1 hs
  obtain ⟨a, ns, rfl, h1, h⟩ := ints_of hx h
  exact cr_sum hc pn0 s σ H _ us Q I r ⟨a, ns, rfl, .inl (.inl h1), Res.int h⟩
theorem Rs.bls {K : PySem.W.Frag} {H : Hp} {Z : Zn} {n : Nat} {F : List Addr} : ∀ {ns : List Bool} {vs : List V}, Rs K H Z n vs (ns.map D.bl) F → vs = ns.map V.bl
  | [], vs, h => by obtain ⟨e, _⟩ := h.nil_inv; exact e
  | i :: ns, vs, h => by
    cases h with
    | bl _ h => rw [List.map_cons, ← Rs.bls h]
theorem bls_of {H : Hp} {Z : Zn} {x : V} {d : D} {k : List Bool → Prop} (h : IV c H Z x d) (q : pBls d k) : ∃ a ns, x = .ref a ∧ H a = some (.lst (ns.map V.bl)) ∧ k ns := by
  unfold pBls at q; split at q
  · obtain ⟨ns, rfl, q⟩ := q
    obtain ⟨a, vs, rfl, h1, r1⟩ := h
    have := r1.bls; subst this
    exact ⟨a, ns, rfl, h1, q⟩
  · exact q.elim
theorem c_all (hc : X.calm = true) : CallR X (.builtin "all") (rn c .all_) := by
  intro pn0 s σ H xs us Q I r h
  obtain ⟨Z, ds, hs, h⟩ := h
  unfold pw at h; split at h <;> (try contradiction) <;> rename_i heq <;> (try cases heq)
  obtain ⟨x, rfl, hx⟩ := ivs1 hs
  obtain ⟨a, ns, rfl, h1, h⟩ := bls_of hx h
  exact cr_all hc pn0 s σ H _ us Q I r ⟨a, ns, rfl, .inl (.inl h1), Res.bl h⟩
theorem c_any (hc : X.calm = true) : CallR X (.builtin "any") (rn c .any_) := by
  intro pn0 s σ H xs us Q I r h
  obtain ⟨Z, ds, hs, h⟩ := h
  unfold pw at h; split at h <;> (try contradiction) <;> rename_i heq <;> (try cases heq)
  obtain ⟨x, rfl, hx⟩ := ivs1 hs
  obtain ⟨a, ns, rfl, h1, h⟩ := bls_of hx h
  exact cr_any hc pn0 s σ H _ us Q I r ⟨a, ns, rfl, .inl (.inl h1), Res.bl h⟩
theorem c_int : CallR X (.type "int") (rn c .int_) := by
  intro pn0 s σ H xs us Q I r h
  obtain ⟨Z, ds, hs, h⟩ := h
  unfold pw at h; split at h <;> (try contradiction) <;> rename_i heq <;> (try cases heq)
  · obtain ⟨x, rfl, hx⟩ := ivs1 hs
    have ex := hx.int; subst ex
    exact call_int1 pn0 s σ H _ us Q I r (.inl ⟨_, rfl, Res.int h⟩)
  · obtain ⟨x, rfl, hx⟩ := ivs1 hs
    have ex := hx.bl; subst ex
    exact call_int1 pn0 s σ H _ us Q I r (.inr ⟨_, rfl, Res.int h⟩)
theorem c_bool : CallR X (.type "bool") (rn c .bool_) := by
  intro pn0 s σ H xs us Q I r h
  obtain ⟨Z, ds, hs, h⟩ := h
  unfold pw at h; split at h <;> (try contradiction) <;> rename_i heq <;> (try cases heq)
  · obtain ⟨x, rfl, hx⟩ := ivs1 hs
    have ex := hx.int; subst ex
    exact call_bool1 pn0 s σ H _ us Q I r (.inl ⟨_, rfl, Res.bl h⟩)
  · obtain ⟨x, rfl, hx⟩ := ivs1 hs
    have ex := hx.bl; subst ex
    exact call_bool1 pn0 s σ H _ us Q I r (.inr ⟨_, rfl, Res.bl h⟩)
theorem c_str : CallR X (.type "str") (rn c .str_) := by
  intro pn0 s σ H xs us Q I r h
  obtain ⟨Z, ds, hs, h⟩ := h
  unfold pw at h; split at h <;> (try contradiction) <;> rename_i heq <;> (try cases heq)
  · obtain ⟨x, rfl, hx⟩ := ivs1 hs
    have ex := hx.int; subst ex
    exact call_str_int pn0 s σ H _ us Q I r ⟨_, rfl, h.1, Res.str h.2⟩
  · obtain ⟨x, rfl, hx⟩ := ivs1 hs
    have ex := hx.str; subst ex
    exact SkE.call_str_str pn0 s σ H _ us Q I r ⟨_, rfl, Res.str h⟩
theorem c_tuple : CallR X (.type "tuple") (rn c .tuple) := by
  intro pn0 s σ H xs us Q I r h
  obtain ⟨Z, ds, hs, h⟩ := h
  unfold pw at h; split at h <;> (try contradiction) <;> rename_i heq <;> (try cases heq)
  · obtain ⟨x, rfl, hx⟩ := ivs1 hs
    obtain ⟨a, vs, rfl, h1, r1⟩ := hx
    exact call_tuple_of pn0 s σ H _ us Q I r ⟨a, vs, rfl, .inl ⟨.inl (.inl h1), fun l hl => Res.tup h r1 hl⟩⟩
  · obtain ⟨x, rfl, hx⟩ := ivs1 hs
    obtain ⟨a, vs, rfl, h1, r1⟩ := hx.tup
    exact call_tuple_of pn0 s σ H _ us Q I r ⟨a, vs, rfl, .inr ⟨SqT.of h1, Res.same h (Rep.mk_tup h1 r1) rfl⟩⟩
theorem c_list : CallR X (.type "list") (rn c .list) := by
  intro pn0 s σ H xs us Q I r h
  obtain ⟨Z, ds, hs, h⟩ := h
  unfold pw at h; split at h <;> (try contradiction) <;> rename_i heq <;> (try cases heq)
  · obtain ⟨x, rfl, hx⟩ := ivs1 hs
    obtain ⟨a, vs, rfl, h1, r1⟩ := hx
    exact call_list_of pn0 s σ H _ us Q I r ⟨a, vs, rfl, .inl (.inl (.inl h1)), fun l hl => Res.lst h r1 hl⟩
  · obtain ⟨x, rfl, hx⟩ := ivs1 hs
    obtain ⟨a, vs, rfl, h1, r1⟩ := hx.tup
    exact call_list_of pn0 s σ H _ us Q I r ⟨a, vs, rfl, .inr (SqT.of h1), fun l hl => Res.lst h r1 hl⟩
theorem lexB_not {p q : Int × Int} (h : SrtO.lexB q p = false) : p.1 < q.1 ∨ (p.1 = q.1 ∧ p.2 ≤ q.2) := by
  have := mt (SrtO.lexB_iff (p := q) (q := p)).mpr (by rw [h]; simp)
  omega
/-- the pairs that values stand for -/
theorem Rs.pairs {K : PySem.W.Frag} {H : Hp} {Z : Zn} {n : Nat} {F : List Addr} : ∀ {ns : List (Int × Int)} {vs : List V}, Rs K H Z n vs (ns.map fun p => D.tup [.int p.1, .int p.2]) F →
    vs.length = ns.length ∧ ∀ (i : Nat) (p : Int × Int), ns[i]? = some p → ∃ t, vs[i]? = some (.ref t) ∧ H t = some (.tup [.int p.1, .int p.2])
  | [], vs, h => by obtain ⟨e, _⟩ := h.nil_inv; subst e; exact ⟨rfl, fun i p e => by simp at e⟩
  | q :: ns, vs, h => by
    cases h with
    | tup e r h dj =>
      obtain ⟨h1, h2⟩ := Rs.pairs h
      refine ⟨by simp [h1], fun i p e2 => ?_⟩
      cases i with
      | succ i => exact h2 i p e2
      | zero =>
        have e3 : q = p := by simpa using e2
        subst e3
        have := Rs.ints (ns := [q.1, q.2]) r
        subst this
        exact ⟨_, rfl, e⟩
theorem c_sorted : CallR X (.builtin "sorted") (rn c .sorted) := by
  intro pn0 s σ H xs us Q I r h
  obtain ⟨Z, ds, hs, h⟩ := h
  unfold pw at h; split at h <;> (try contradiction) <;> rename_i heq <;> (try cases heq)
  obtain ⟨x, rfl, hx⟩ := ivs1 hs
  split at h
  · obtain ⟨a, vs, rfl, h1, r1⟩ := hx
    rcases h with ⟨ns, rfl, h⟩ | ⟨ns, rfl, h⟩
    · have := r1.ints; subst this
      exact cr_sortedI pn0 s σ H _ us Q I r ⟨a, ns, rfl, .inl (.inl h1), fun ms p pm srt hp => Res.lst (h ms pm srt) (Rs.of_ints ms) hp⟩
    · obtain ⟨l1, l2⟩ := r1.pairs
      -- the pair behind a value
      let k : V → Int × Int := fun v => match v with
        | .ref t => match H t with
          | some (.tup [.int i, .int j]) => (i, j)
          | _ => (0, 0)
        | _ => (0, 0)
      have kt : ∀ {t : Addr} {p : Int × Int}, H t = some (.tup [.int p.1, .int p.2]) → k (.ref t) = p := fun {t p} e => by show (match H t with | some (.tup [.int i, .int j]) => (i, j) | _ => (0, 0)) = p; rw [e]
      have hv : ∀ x ∈ vs, ∃ t, x = V.ref t ∧ H t = some (.tup [.int (k x).1, .int (k x).2]) := fun x hx => by
        obtain ⟨i, hi⟩ := List.getElem?_of_mem hx
        have hl : i < ns.length := by rw [← l1]; exact (List.getElem?_eq_some_iff.mp hi).1
        obtain ⟨t, e1, e2⟩ := l2 i ns[i] (by simp [hl])
        rw [hi] at e1; cases e1
        exact ⟨t, rfl, by rw [kt e2]; exact e2⟩
      have hk : vs.map k = ns := by
        apply List.ext_getElem?
        intro i
        rw [List.getElem?_map]
        cases e : ns[i]? with
        | none =>
          have : vs[i]? = none := List.getElem?_eq_none_iff.mpr (by rw [l1]; exact List.getElem?_eq_none_iff.mp e)
          rw [this]; rfl
        | some p =>
          obtain ⟨t, e1, e2⟩ := l2 i p e
          rw [e1]
          show some (k (.ref t)) = some p
          rw [kt e2]
      refine cr_sortedPO pn0 s σ H _ us Q I r ⟨a, vs, k, rfl, .inl (.inl h1), hv, fun ys q srt stb hq => ?_⟩
      have pm := stb.perm
      have hy : ∀ x ∈ ys, ∃ t, x = V.ref t ∧ H t = some (.tup [.int (k x).1, .int (k x).2]) := fun x hx => hv x (pm.mem_iff.mp hx)
      refine Res.lst (h (ys.map k) (by rw [← hk]; exact pm.map k) ?_) ?_ hq
      · rw [List.pairwise_map]
        exact srt.imp fun {a b} e => lexB_not e
      · rw [List.map_map]
        refine Rs.of_at (by simp) fun i v d e1 e2 => ?_
        rw [List.getElem?_map, e1] at e2
        cases e2
        obtain ⟨t, rfl, e⟩ := hy v (List.mem_of_getElem? e1)
        exact Rep.mk_tup e (Rs.of_ints [_, _])
  · exact h.elim
/-- the walk's own texts -/
theorem noDict : ∀ (d : D), plain d = true → (py d).hasDict = false := by
  intro d
  refine D.rec (motive_1 := fun d => plain d = true → (py d).hasDict = false) (motive_2 := fun ds => plains ds = true → PyData.hasDictAll (pys ds) = false)
    (motive_3 := fun _ => True) (motive_4 := fun _ => True) (motive_5 := fun _ => True) (motive_6 := fun _ => True) ?_ ?_ ?_ ?_ ?_ ?_ ?_ ?_ ?_ ?_ ?_ ?_ ?_ ?_ ?_ ?_ ?_ d
  · intro _; simp [py, PyData.hasDict]
  · intro b _; simp [py, PyData.hasDict]
  · intro b _; simp [py, PyData.hasDict]
  · intro b _; simp [py, PyData.hasDict]
  · intro xs ih h; simp only [py, PyData.hasDict]; exact ih (by simpa [plain] using h)
  · intro xs ih h; simp only [py, PyData.hasDict]; exact ih (by simpa [plain] using h)
  · intro _ _ h; simp [plain] at h
  · intro _ _ h; simp [plain] at h
  · intro _ h; simp [plain] at h
  · intro _; simp [pys, PyData.hasDictAll]
  · intro x xs i1 i2 h
    simp only [plains, Bool.and_eq_true] at h
    simp only [pys, PyData.hasDictAll, i1 h.1, i2 h.2, Bool.or_self]
  all_goals (intros; trivial)
theorem c_repr (hK : c.K = X.K) (hg : X.A.guards = some []) (hu : X.A.units + 65 < cLine) : CallR X (.builtin "repr") (rn c .repr_) := by
  intro pn0 s σ H xs us Q I r h
  obtain ⟨Z, ds, hs, h⟩ := h
  unfold pw at h; split at h <;> (try contradiction) <;> rename_i heq <;> (try cases heq)
  rename_i d
  obtain ⟨x, rfl, hx⟩ := ivs1 hs
  obtain ⟨h1, h2, h3, h4, h⟩ := h
  obtain ⟨u, rfl, hu1⟩ := vals1 r
  have dp : Dp X.K H x (py d) := hK ▸ hx.dp h1
  obtain ⟨as, rd⟩ := Dp.reads I (py d) x u dp hu1
  have fin : ∀ h' t tk, (∀ b o, s.heap.get? b = some o → h'.get? b = some o) → EP X pn0 σ Q (.str (py d).shown t) { s with heap := h', toks := tk } := fun h' t tk k => ⟨.str _, H, I.kept k, ⟨t, rfl⟩, h.str⟩
  cases u with
  | ref a => exact repr_of_reads' rd h2 (fun e => by rw [noDict d h1] at e; cases e) hg (by omega) (fun _ _ e => e) (fun h' t tk k => fin h' t tk k) h4
  | none =>
    cases hd : py d <;> rw [hd] at rd <;> cases rd
    exact P.repr_of_none (by have := fin s.heap s.toks (s.toks + 1) fun _ _ e => e; rw [hd] at this; simpa [PyData.shown] using this)
  | bool b =>
    cases hd : py d <;> rw [hd] at rd <;> cases rd
    exact P.repr_of_bool (by have := fin s.heap s.toks (s.toks + 1) fun _ _ e => e; rw [hd] at this; simpa [PyData.shown] using this)
  | int i t =>
    cases hd : py d <;> rw [hd] at rd <;> cases rd
    refine P.repr_of_int (by rw [hd] at h2; simpa [PyData.showable] using h2) (by have := fin s.heap s.toks (s.toks + 1) fun _ _ e => e; rw [hd] at this; simpa [PyData.shown] using this)
  | str z t =>
    cases hd : py d <;> rw [hd] at rd <;> cases rd
    refine P.repr_of_str (by have := fin s.heap s.toks (s.toks + 1) fun _ _ e => e; rw [hd] at this; simpa [PyData.shown] using this) (by rw [hd] at h4; simpa [PyData.shown] using h4)
  | _ => cases hd : py d <;> rw [hd] at rd <;> cases rd
end
end DL
end
section
set_option Elab.async false
set_option linter.all false
set_option maxRecDepth 100000
set_option maxHeartbeats 3900000
/-! DL7: readings from wp: what an expression's wp says is what the rules ask. -/
namespace DL
open PySem PySem.Spec L2

/-- the ends, over the heap -/
def PostE (c : Cn) (m : Am) (σ : L2.St) (H : Hp) (Z : Zn) (F : Fs) (Q : VK) : QE := fun s env' =>
  ∀ x H' Z' F' G, Ext H Z F H' Z' F' → StOk c m H' Z' σ env' F' → TOk c H' Z' σ x G s → Sep Z' F' G → GSub H F G → Q x H'
def PostX (c : Cn) (m : Am) (σ : L2.St) (H : Hp) (Z : Zn) (F : Fs) (W : WX) : QX := fun e env' =>
  ∀ cls d H' Z' F', Ext H Z F H' Z' F' → StOk c m H' Z' σ env' F' → ExOk c H' Z' e cls d → W cls d σ H'
def PostEs (c : Cn) (m : Am) (σ : L2.St) (H : Hp) (Z : Zn) (F : Fs) (Q : List V → Hp → Prop) : List Sl → Env' → Prop := fun ss env' =>
  ∀ xs H' Z' F' G, Ext H Z F H' Z' F' → StOk c m H' Z' σ env' F' → Tmps c H' Z' σ xs ss G → Sep Z' F' G → GSub H F G → Q xs H'
def PostB (c : Cn) (m : Am) (σ : L2.St) (H : Hp) (Z : Zn) (F : Fs) (Q : Bool → Hp → Prop) : Bool → Env' → Prop := fun b env' =>
  ∀ H' Z' F', Ext H Z F H' Z' F' → StOk c m H' Z' σ env' F' → Q b H'
def rdE (c : Cn) (m : Am) (T : Txt) (W : WX) (r : RE) : TE := fun σ H Q => ∃ env Z F, StOk c m H Z σ env F ∧ wpE T r env (PostE c m σ H Z F Q) (PostX c m σ H Z F W)
def rdT (c : Cn) (m : Am) (T : Txt) (W : WX) (r : RE) : TT := fun σ H Q => ∃ env Z F, StOk c m H Z σ env F ∧ wpE T r env (fun s e1 => tstQ s e1 fun b => PostB c m σ H Z F Q b e1) (PostX c m σ H Z F W)
def tAll : List TE → TA
  | [] => tNil
  | t :: ts => tCons t (tAll ts)

section
variable {c : Cn} {m : Am} {T : Txt} {W : WX} {σ : L2.St} {H H1 : Hp} {Z Z1 : Zn} {F F1 : Fs} {env e1 : Env'} {Q : VK} {r : RE} {rs : List RE}
theorem PostX.from (e : Ext H Z F H1 Z1 F1) {x : Ex} {env' : Env'} (h : PostX c m σ H Z F W x env') : PostX c m σ H1 Z1 F1 W x env' := fun cls d H' Z' F' e2 S X => h cls d H' Z' F' (e.trans e2) S X
theorem Dj.later {G G' : List Addr} (S : StOk c m H1 Z1 σ e1 F1) (sp : Sep Z1 F1 G) (th : ∀ a ∈ G, H1 a ≠ none) (gs : GSub H1 F1 G') : Dj G G' := fun a h1 h2 => by
  rcases gs a h2 with ⟨j, hj⟩ | hn
  · exact sp.f a h1 j hj
  · exact th a h1 hn
/-- arguments, one by one -/
theorem args_read : ∀ (rs : List RE) {H : Hp} {Z : Zn} {F : Fs} {env : Env'} {Q : List V → Hp → Prop}, StOk c m H Z σ env F → wpEs T rs env (PostEs c m σ H Z F Q) (PostX c m σ H Z F W) → tAll (rs.map (rdE c m T W)) σ H Q
  | [], H, Z, F, env, Q, S, h => by
    simp only [wpEs] at h
    exact h [] H Z F [] (Ext.refl _ _ _) S .nil Sep.nil GSub.nil
  | r :: rs, H, Z, F, env, Q, S, h => by
    simp only [wpEs] at h
    refine ⟨env, Z, F, S, wpE_mono r env h (fun s e1 h1 => ?_) fun _ _ h => h⟩
    intro x H1 Z1 F1 G1 E1 S1 t1 sp1 gs1
    refine args_read rs S1 (wpEs_mono rs e1 h1 (fun ss e2 h2 => ?_) fun _ _ h => h.from E1)
    intro xs H2 Z2 F2 G2 E2 S2 t2 sp2 gs2
    exact h2 (x :: xs) H2 Z2 F2 (G1 ++ G2) (E1.trans E2) S2 (.cons (t1.ext sp1 S1.zn E2) t2 (Dj.later S1 sp1 t1.there gs2)) ((sp1.ext t1.there E2).both sp2) (gs1.append (gs2.back E1))

/-- an operation's values -/
theorem Vws.iv (h : Vws c H Z xs zs) : zs.all Rz.flat = true → IVs c H Z xs (zs.map Rz.dat) := by
  induction h with
  | nil => intro _; exact .nil
  | cons h _ ih => intro f; rw [List.all_cons, Bool.and_eq_true] at f; exact .cons (IV.flat h f.1) (ih f.2)
theorem Vws.ivT (h : Vws c H Z xs zs) : IVs c H (fun _ => True) xs (zs.map Rz.dat) := by
  induction h with
  | nil => exact .nil
  | cons h _ ih => exact .cons (IV.any h) ih
theorem Rep.immT {K : PySem.W.Frag} {n : Nat} {v : V} {d : D} {G : List Addr} {Z Z' : Zn} (h : Rep K H Z n v d G) (e : DL.imm d = true) : Rep K H Z' n v d G := by
  obtain ⟨e1, h1⟩ := h.imm e
  subst e1
  exact h1 n Z'
theorem Rep.immL {K : PySem.W.Frag} {v : V} {xs : List D} {G : List Addr} {Z Z' : Zn} (h : Rep K H Z 1 v (.lst xs) G) (e : imms xs = true) : Rep K H Z' 1 v (.lst xs) G := by
  obtain ⟨a, ys, G', rfl, rfl, h1, h2, h3⟩ := h.lst1_inv
  obtain ⟨e1, h4⟩ := Rs.imm h2 e
  subst e1
  exact Rep.mk_lst1 h1 (h4 0 Z') (by simp)
/-- what comes of an operation is a value of its own -/
theorem prim_fin {p : Pr} {d : D} {H1 : Hp} {Z1 : Zn} {F1 : Fs} {G : List Addr} (E1 : Ext H Z F H1 Z1 F1) (S1 : StOk c m H1 Z1 σ e1 F1) (sp : Sep Z1 F1 G) (gs : GSub H F G) (th : ∀ a ∈ G, H1 a ≠ none)
    (h : PostE c m σ H Z F Q (mkR p d) e1) : Res c H1 (zadd Z1 G) p Q d := by
  intro v H' k hr
  have S2 : StOk c m H' (zadd Z1 G) σ e1 F1 := (S1.grow k).zone sp.f fun a ha => by
    have := th a ha
    cases q : H1 a with
    | none => exact absurd q this
    | some o => rw [k a o q]; simp
  have E2 : Ext H Z F H' (zadd Z1 G) F1 := Ext.zone gs (E1.trans (Ext.grow k))
  unfold mkR at h
  split at hr
  · rename_i hf
    rw [if_pos hf] at h
    obtain ⟨a, ha, r⟩ := hr
    refine h v H' _ F1 [a] E2 S2 r ⟨fun b hb hz => ?_, fun b hb i hi => ?_⟩ fun b hb => ?_
    · rw [List.mem_singleton] at hb; subst hb
      rcases hz with hz | hz
      · exact S1.zh _ hz ha
      · exact th _ hz ha
    · rw [List.mem_singleton] at hb; subst hb
      exact S1.there hi ha
    · rw [List.mem_singleton] at hb; subst hb
      exact .inr (none_of fun q => E1.dom _ q ha)
  · rename_i hf
    rw [if_neg hf] at h
    exact h v H' _ F1 [] E2 S2 ⟨rfl, hr⟩ Sep.nil GSub.nil
theorem res_imm {p : Pr} {d : D} {Z' : Zn} (h : Res c H Z' p Q d) (e : (if fresh p d = true then immR d else imm d) = true) : Res c H (fun _ => True) p Q d := by
  intro v H' k hr
  refine h v H' k ?_
  split at hr
  · rename_i hf
    rw [if_pos hf] at e
    rw [if_pos hf]
    obtain ⟨a, ha, r⟩ := hr
    refine ⟨a, ha, ?_⟩
    cases d with
    | lst xs => exact Rep.immL r e
    | non => exact Rep.immT r e
    | bl b => exact Rep.immT r e
    | int b => exact Rep.immT r e
    | str b => exact Rep.immT r e
    | tup b => exact Rep.immT r e
    | dK b => simp [immR, imm] at e
    | dT b => simp [immR, imm] at e
    | scr b => simp [immR, imm] at e
  · rename_i hf
    rw [if_neg hf] at e
    rw [if_neg hf]
    exact Rep.immT hr e

theorem ivs_len {xs : List V} {ds : List D} (h : IVs c H Z xs ds) : xs.length = ds.length := by
  induction h with
  | nil => rfl
  | cons _ _ ih => simp [ih]
/-- an operation on what its operands gave -/
theorem prim_rn {p : Pr} {xs : List V} {ss : List Sl} {G : List Addr} (nd : isDisp p = false) (E1 : Ext H Z F H1 Z1 F1) (S1 : StOk c m H1 Z1 σ e1 F1) (t : Tmps c H1 Z1 σ xs ss G) (sp : Sep Z1 F1 G) (gs : GSub H F G)
    (h : primQ p e1 ss fun s => PostE c m σ H Z F Q s e1) : rn c p xs H1 Q := by
  rw [primQ_eq (nest_nd nd)] at h
  unfold primQ.primQ0 at h
  split at h
  · rename_i zs hz
    have V := Vws.of (G0 := G) S1 t (fun _ h => h) hz
    by_cases fl : zs.all Rz.flat = true
    · exact ⟨_, _, V.iv fl, pw_mono h fun d q => prim_fin E1 S1 sp gs t.there q.2⟩
    · refine ⟨_, _, V.ivT, pw_mono h fun d q => res_imm (prim_fin E1 S1 sp gs t.there q.2) ?_⟩
      have q1 := q.1
      unfold okr at q1
      rw [nd] at q1
      simpa [fl] using q1
  · exact h.elim
theorem prim_read {p : Pr} (nd : isDisp p = false) {R : List V → Hp → Prop} (hR : ∀ xs H, rn c p xs H Q → R xs H) (h : rdE c m T W (.prim p rs) σ H Q) : tAll (rs.map (rdE c m T W)) σ H R := by
  obtain ⟨env, Z, F, S, h⟩ := h
  simp only [wpE] at h
  exact args_read rs S (wpEs_mono rs env h (fun ss e1 h1 xs H1 Z1 F1 G E1 S1 t sp gs => hR xs H1 (prim_rn nd E1 S1 t sp gs h1)) fun _ _ h => h)
/-- a display's items -/
theorem Vws.disp {xs : List V} {zs : List Rz} (h : Vws c H Z xs zs) : zs.all Rz.isFr = true → Rs c.K H Z 0 xs (zs.map Rz.dat) [] := by
  induction h with
  | nil => intro _; exact .nil
  | cons h _ ih =>
    rename_i z _ _ _
    intro f
    simp only [List.all_cons, Bool.and_eq_true] at f
    cases z with
    | fr d => exact .cons0 h (ih f.2)
    | ow n d => cases f.1
/-- a display -/
def rdisp (c : Cn) (p : Pr) (Q : VK) : List V → Hp → Prop := fun xs H => ∃ Z ds, Rs c.K H Z 0 xs ds [] ∧ pw p ds (Res c H Z p Q)
theorem pw_okr {p : Pr} {zs : List Rz} {R : D → Prop} {ds : List D} (hp : isDisp p = true) (h : pw p ds fun d => okr p zs d = true ∧ R d) : zs.all Rz.isFr = true := by
  have key : ∀ {d}, okr p zs d = true → zs.all Rz.isFr = true := fun {d} h => by unfold okr at h; rw [if_pos hp] at h; exact h
  cases p <;> simp only [isDisp] at hp <;> try cases hp
  · simp only [pw] at h; exact key h.2.1
  · simp only [pw] at h; exact key h.2.1
  · simp only [pw] at h; exact key h.2.2.2.1
  · simp only [pw] at h
theorem disp_read {p : Pr} (hp : isDisp p = true) (np : nestK p = none) {R : List V → Hp → Prop} (hR : ∀ xs H, rdisp c p Q xs H → R xs H) (h : rdE c m T W (.prim p rs) σ H Q) : tAll (rs.map (rdE c m T W)) σ H R := by
  obtain ⟨env, Z, F, S, h⟩ := h
  simp only [wpE] at h
  refine args_read rs S (wpEs_mono rs env h (fun ss e1 h1 xs H1 Z1 F1 G E1 S1 t sp gs => hR xs H1 ?_) fun _ _ h => h)
  rw [primQ_eq np] at h1
  unfold primQ.primQ0 at h1
  split at h1
  · rename_i zs hz
    have V := Vws.of (G0 := G) S1 t (fun _ h => h) hz
    exact ⟨_, _, V.disp (pw_okr hp h1), pw_mono h1 fun d q => prim_fin E1 S1 sp gs t.there q.2⟩
  · exact h1.elim

/-! ### truth -/
theorem tru_of {x : V} {z : Rz} {R : Bool → Prop} (h : Vw c H Z x z) (q : truQ z.dat R) : ∃ k, TruV c.K x H k ∧ R k := by
  have h := IV.any h
  cases hd : z.dat with
  | non => rw [hd] at h q; have := h.non; subst this; exact ⟨_, rfl, q⟩
  | bl b => rw [hd] at h q; have := h.bl; subst this; exact ⟨_, rfl, q⟩
  | int b => rw [hd] at h q; have := h.int; subst this; exact ⟨_, rfl, q⟩
  | str b => rw [hd] at h q; have := h.str; subst this; exact ⟨_, ⟨q.1, rfl⟩, q.2⟩
  | tup xs =>
    rw [hd] at h q
    obtain ⟨a, vs, rfl, h1, r⟩ := h.tup
    refine ⟨_, .inr (.inl ⟨vs, SqT.of h1, rfl⟩), ?_⟩
    have : vs.isEmpty = xs.isEmpty := by have := r.length; cases vs <;> cases xs <;> simp_all
    rw [this]; exact q
  | lst xs =>
    rw [hd] at h q
    obtain ⟨a, vs, rfl, h1, r⟩ := h
    refine ⟨_, .inl ⟨vs, .inl (.inl h1), rfl⟩, ?_⟩
    have : vs.isEmpty = xs.isEmpty := by have := r.length; cases vs <;> cases xs <;> simp_all
    rw [this]; exact q
  | dK xs =>
    rw [hd] at h q
    obtain ⟨a, vs, rfl, h1, e, r⟩ := h
    refine ⟨_, .inr (.inr ⟨vs, h1, rfl⟩), ?_⟩
    have : vs.isEmpty = xs.isEmpty := by
      have : vs.length = xs.length := by simpa using congrArg List.length e
      cases vs <;> cases xs <;> simp_all
    rw [this]; exact q
  | dT xs => rw [hd] at q; exact q.elim
  | scr xs => rw [hd] at q; exact q.elim
/-- a test's answer, of a value -/
theorem tst_of {x : V} {s : Sl} {G : List Addr} {R : Bool → Prop} (S1 : StOk c m H1 Z1 σ e1 F1) (t : TOk c H1 Z1 σ x G s) (q : tstQ s e1 R) : ∃ k, TruV c.K x H1 k ∧ R k := by
  unfold tstQ at q
  split at q
  · rename_i z hz
    exact tru_of (Vw.of (G0 := G) S1 t (fun _ h => h) hz) q
  · exact q.elim
/-- a value's truth -/
theorem truth_read {Q : Bool → Hp → Prop} (h : rdT c m T W r σ H Q) : rdE c m T W r σ H fun x H' => ∃ k, TruV c.K x H' k ∧ Q k H' := by
  obtain ⟨env, Z, F, S, h⟩ := h
  refine ⟨env, Z, F, S, wpE_mono r env h (fun s e1 h1 x H1 Z1 F1 G E1 S1 t sp gs => ?_) fun _ _ h => h⟩
  obtain ⟨k, k1, k2⟩ := tst_of S1 t h1
  exact ⟨k, k1, k2 H1 Z1 F1 E1 S1⟩
/-- comparisons give a bool -/
def isCmp : Pr → Bool
  | .eq | .ne | .lt | .le | .gt | .ge | .is_ | .isn | .in_ | .nin => true
  | _ => false
theorem cmp_bl {p : Pr} {ds : List D} {R : D → Prop} (hp : isCmp p = true) (h : pw p ds R) : pw p ds fun d => (∃ b, d = .bl b) ∧ R d := by
  have k2 : ∀ {C : Int → Int → Prop} {g : Int → Int → Bool} {x y : D} {R : D → Prop}, p2I C (fun i j => .bl (g i j)) x y R → p2I C (fun i j => .bl (g i j)) x y fun d => (∃ b, d = .bl b) ∧ R d := fun {C g x y R} h => by
    unfold p2I at h ⊢; split at h
    · exact ⟨h.1, ⟨_, rfl⟩, h.2⟩
    · exact h.elim
  have ke : ∀ {n : Bool} {x y : D} {R : D → Prop}, pEq n x y R → pEq n x y fun d => (∃ b, d = .bl b) ∧ R d := fun {n x y R} h => ⟨h.1, ⟨_, rfl⟩, h.2⟩
  have ki : ∀ {n : Bool} {x y : D} {R : D → Prop}, pIs n x y R → pIs n x y fun d => (∃ b, d = .bl b) ∧ R d := fun {n x y R} h => by
    unfold pIs at h ⊢; split at h
    · exact ⟨⟨_, rfl⟩, h⟩
    · split at h
      · exact ⟨⟨_, rfl⟩, h⟩
      · exact h.elim
    · exact h.elim
  have kn : ∀ {n : Bool} {x y : D} {R : D → Prop}, pIn n x y R → pIn n x y fun d => (∃ b, d = .bl b) ∧ R d := fun {n x y R} h => by
    unfold pIn at h ⊢; split at h
    · exact ⟨h.1, h.2.1, h.2.2.1, h.2.2.2.1, ⟨_, rfl⟩, h.2.2.2.2⟩
    · exact ⟨h.1, h.2.1, ⟨_, rfl⟩, h.2.2⟩
    · obtain ⟨q, e, h⟩ := h; exact ⟨q, e, ⟨_, rfl⟩, h⟩
    · obtain ⟨q, e, h⟩ := h; exact ⟨q, e, ⟨_, rfl⟩, h⟩
    · exact h.elim
  have kl : ∀ {x y : D} {R : D → Prop}, pLt x y R → pLt x y fun d => (∃ b, d = .bl b) ∧ R d := fun {x y R} h => by
    unfold pLt at h ⊢; split at h
    · exact ⟨⟨_, rfl⟩, h⟩
    · exact ⟨⟨_, rfl⟩, h⟩
    · obtain ⟨ns, ms, a, b, h⟩ := h; exact ⟨ns, ms, a, b, ⟨_, rfl⟩, h⟩
    · exact h.elim
  have two : ∃ x y, ds = [x, y] := by
    cases p <;> simp only [isCmp] at hp <;> (try cases hp) <;> (unfold pw at h; split at h) <;> first | exact ⟨_, _, rfl⟩ | (simp at *) | exact h.elim
  obtain ⟨x, y, rfl⟩ := two
  cases p <;> simp only [isCmp] at hp <;> (try cases hp)
  · exact ke h
  · exact ke h
  · exact kl h
  · exact k2 h
  · exact k2 h
  · exact k2 h
  · exact ki h
  · exact ki h
  · exact kn h
  · exact kn h
theorem fresh_bl {p : Pr} {b : Bool} (hp : isCmp p = true) : fresh p (.bl b) = false := by cases p <;> first | rfl | cases hp
/-- a comparison as a test -/
theorem cmp_read {p : Pr} (hp : isCmp p = true) {Q : Bool → Hp → Prop} (h : rdT c m T W (.prim p rs) σ H Q) : rdE c m T W (.prim p rs) σ H fun x H' => ∃ k, x = .bl k ∧ Q k H' := by
  obtain ⟨env, Z, F, S, h⟩ := h
  refine ⟨env, Z, F, S, ?_⟩
  simp only [wpE] at h ⊢
  refine wpEs_mono rs env h (fun ss e1 h1 => ?_) fun _ _ h => h
  rw [primQ_eq (nest_nd (by cases p <;> first | rfl | cases hp))] at h1 ⊢
  unfold primQ.primQ0 at h1 ⊢
  split at h1
  · refine pw_mono (cmp_bl hp h1) fun d q => ⟨q.2.1, fun x H1 Z1 F1 G E1 S1 t sp gs => ?_⟩
    obtain ⟨⟨b, rfl⟩, _, q⟩ := q
    unfold mkR at q t
    rw [fresh_bl hp] at q t
    have := Rep.bl_inv t.2
    exact ⟨b, this.1, q H1 Z1 F1 E1 S1⟩
  · exact h1.elim
end
end DL
end
section
set_option Elab.async false
set_option linter.all false
set_option maxRecDepth 100000
set_option maxHeartbeats 3900000
/-! DL8: defs' promises over data, and calls. -/
namespace DL
open PySem PySem.Spec L2

/-- a def's promise where no text is being shown -/
structure FnG (P : Program) (w : World) (K : PySem.W.Frag) (mg : Str → Option Value) (base : Heap) (k : Nat) (f : Addr) (fd : FuncData) (ps : List Str) (sp : Sp) : Prop where
  len : ∀ vs H Q XE, sp vs H Q XE → vs.length = ps.length
  run : ∀ (A : Around) (outer : List Env) (s : Shared) (H : Hp) (args : Args) (us : List Value) (vs : List V) (Q : VK) (E : XK), A.guards = some [] → Room k A → Env0 P w K mg base A outer s H → BindsTo s fd args (ps.zip us) → Vals vs us → sp vs H Q E →
    codeAny (model P w) A (.call (.ref f) args) (CR (L2.CX P w) outer P w H s Q E) s

/-- the parameters' own state -/
def am0 (vs : List V) : Am := ⟨fun i => vs[i]?, none⟩
def spC (c : Cn) (C : Ctr) (np : Nat) : Sp := fun vs H Q E => vs.length = np ∧ ∃ Z ss F, StOk c (am0 vs) H Z (vs.map some) ss F ∧
  C.run ss (fun s outs => ∀ v H' Z' F' G, Ext H Z F H' Z' F' → StOk c (am0 vs) H' Z' (vs.map some) outs F' → TOk c H' Z' [] v G s → Sep Z' F' G → GSub H F G → Q v H')
    (fun e outs => ∀ cls d H' Z' F', Ext H Z F H' Z' F' → StOk c (am0 vs) H' Z' (vs.map some) outs F' → ExOk c H' Z' e cls d → E cls d H')

/-! ### the arguments' places -/
def lentIx : List Bool → List Sl → Nat → Option Nat
  | true :: ls, .q i :: ss, k => if i = k then some 0 else (lentIx ls ss k).map (· + 1)
  | _ :: ls, _ :: ss, k => (lentIx ls ss k).map (· + 1)
  | _, _, _ => none
theorem lentIx_get : ∀ {ls : List Bool} {ss : List Sl} {k j : Nat}, lentIx ls ss k = some j → ls[j]? = some true ∧ ss[j]? = some (.q k)
  | [], _, _, _, h => by simp [lentIx] at h
  | _ :: _, [], _, _, h => by simp [lentIx] at h
  | l :: ls, s :: ss, k, j, h => by
    have go : (lentIx ls ss k).map (· + 1) = some j → (l :: ls)[j]? = some true ∧ (s :: ss)[j]? = some (.q k) := fun h => by
      cases e : lentIx ls ss k with
      | none => rw [e] at h; exact nomatch h
      | some j' =>
        rw [e] at h; cases h
        exact lentIx_get (ls := ls) (ss := ss) e
    unfold lentIx at h
    split at h
    · rename_i h1 h2
      cases h1; cases h2
      split at h
      · rename_i e; cases h; subst e; exact ⟨rfl, rfl⟩
      · exact go h
    · rename_i h1 h2; cases h1; cases h2; exact go h
    · cases h
theorem lentIx_mem : ∀ {ls : List Bool} {ss : List Sl} {k : Nat}, (lentIx ls ss k).isSome = true ↔ k ∈ lentOf ls ss
  | [], ss, k => by cases ss <;> simp [lentIx, lentOf]
  | _ :: _, [], k => by simp [lentIx, lentOf]
  | l :: ls, s :: ss, k => by
    have ih := @lentIx_mem ls ss k
    cases l with
    | false => simp only [lentIx, lentOf, Option.isSome_map]; exact ih
    | true =>
      cases s with
      | q i =>
        simp only [lentIx, lentOf, List.mem_cons]
        by_cases e : i = k
        · simp [e]
        · rw [if_neg e, Option.isSome_map, ih]
          exact ⟨.inr, fun h => h.resolve_left fun q => e q.symm⟩
      | _ => simp only [lentIx, lentOf, Option.isSome_map]; exact ih
theorem lentIx_at : ∀ {ls : List Bool} {ss : List Sl} {k j : Nat}, (lentOf ls ss).Nodup → ls[j]? = some true → ss[j]? = some (.q k) → lentIx ls ss k = some j
  | [], _, _, _, _, hh, _ => by simp at hh
  | _ :: _, [], _, _, _, _, hh => by simp at hh
  | l :: ls, s :: ss, k, 0, nd, h1, h2 => by
    cases h1; cases h2
    simp [lentIx]
  | l :: ls, s :: ss, k, j + 1, nd, h1, h2 => by
    have h1 : ls[j]? = some true := h1
    have h2 : ss[j]? = some (.q k) := h2
    cases l with
    | false =>
      have nd : (lentOf ls ss).Nodup := nd
      simp only [lentIx]
      rw [lentIx_at nd h1 h2]; rfl
    | true =>
      cases s with
      | q i =>
        have nd : (i :: lentOf ls ss).Nodup := nd
        have ih := lentIx_at (List.nodup_cons.mp nd).2 h1 h2
        have hm : k ∈ lentOf ls ss := lentIx_mem.mp (by rw [ih]; rfl)
        simp only [lentIx]
        rw [if_neg (fun e : i = k => (List.nodup_cons.mp nd).1 (by rw [e]; exact hm)), ih]; rfl
      | _ =>
        have nd : (lentOf ls ss).Nodup := nd
        simp only [lentIx]
        rw [lentIx_at nd h1 h2]; rfl
theorem named_at : ∀ {ls : List Bool} {ss : List Sl} {k j : Nat}, ls[j]? = some false → ss[j]? = some (.q k) → k ∈ namedOf ls ss
  | [], _, _, _, h, _ => by simp at h  -- so
  | _ :: _, [], _, _, _, hh => by simp at hh
  | l :: ls, s :: ss, k, 0, h1, h2 => by cases h1; cases h2; simp [namedOf]
  | l :: ls, s :: ss, k, j + 1, h1, h2 => by
    have h1 : ls[j]? = some false := h1
    have h2 : ss[j]? = some (.q k) := h2
    have ih := named_at h1 h2
    cases l with
    | true => exact ih
    | false =>
      cases s with
      | q i => exact List.mem_cons_of_mem _ ih
      | _ => exact ih
theorem named_get : ∀ {ls : List Bool} {ss : List Sl} {k : Nat}, k ∈ namedOf ls ss → ∃ j : Nat, ls[j]? = some false ∧ ss[j]? = some (.q k)
  | [], ss, k, h => by cases ss <;> simp [namedOf] at h
  | _ :: _, [], k, h => by simp [namedOf] at h
  | l :: ls, s :: ss, k, h => by
    have go : k ∈ namedOf ls ss → ∃ j : Nat, (l :: ls)[j]? = some false ∧ (s :: ss)[j]? = some (.q k) := fun h => by
      obtain ⟨j, h1, h2⟩ := named_get h
      exact ⟨j + 1, h1, h2⟩
    cases l with
    | true => exact go h
    | false =>
      cases s with
      | q i =>
        rcases List.mem_cons.1 h with e | h
        · subst e; exact ⟨0, rfl, rfl⟩
        · exact go h
      | _ => exact go h
theorem borrows_get {env : Env'} : ∀ {ls : List Bool} {ss : List Sl}, borrows env ls ss = false → ∀ i ∈ namedOf ls ss, ∃ d, env[i]? = some (.v d)
  | [], ss, _, i, h => by cases ss <;> simp [namedOf] at h
  | _ :: _, [], _, i, h => by simp [namedOf] at h
  | l :: ls, s :: ss, hb, i, h => by
    cases l with
    | true => exact borrows_get (ls := ls) (ss := ss) hb i h
    | false =>
      cases s with
      | q k =>
        simp only [borrows, Bool.or_eq_false_iff] at hb
        rcases List.mem_cons.1 h with e | h
        · subst e
          have := hb.1
          split at this
          · rename_i d e; exact ⟨d, e⟩
          · cases this
        · exact borrows_get hb.2 i h
      | _ => exact borrows_get (ls := ls) (ss := ss) hb i h
theorem argsS_get {env : Env'} : ∀ {ls : List Bool} {ss as : List Sl}, argsS env ls ss = some as → as.length = ss.length ∧ ls.length = ss.length ∧ ∀ (j : Nat) s, ss[j]? = some s → ∃ l a, ls[j]? = some l ∧ argS env l s = some a ∧ as[j]? = some a
  | [], [], as, h => by cases h; exact ⟨rfl, rfl, fun j s e => by simp at e⟩
  | [], _ :: _, as, h => by simp [argsS] at h
  | _ :: _, [], as, h => by simp [argsS] at h
  | l :: ls, s :: ss, as, h => by
    simp only [argsS] at h
    split at h
    · rename_i a r h1 h2
      cases h
      obtain ⟨k1, k2, k3⟩ := argsS_get h2
      refine ⟨by simp [k1], by simp [k2], fun j t e => ?_⟩
      cases j with
      | zero => cases e; exact ⟨l, a, rfl, h1, rfl⟩
      | succ j => exact k3 j t e
    · cases h
theorem backS_ne {env : Env'} {i k : Nat} {s : Sl} (h : k ≠ i) : (backS env i s)[k]? = env[k]? := by
  unfold backS; split
  · exact List.getElem?_set_ne (Ne.symm h)
  · exact List.getElem?_set_ne (Ne.symm h)
  · rfl
theorem backS_len {env : Env'} {i : Nat} {s : Sl} : (backS env i s).length = env.length := by
  unfold backS; split <;> simp
theorem backS_congr {env env' : Env'} {i : Nat} {s : Sl} (h : env'[i]? = env[i]?) (hl : env'.length = env.length) : (backS env' i s)[i]? = (backS env i s)[i]? := by
  unfold backS
  rw [h]
  cases e : env[i]? with
  | none => simpa [e] using h
  | some t =>
    have : i < env.length := (List.getElem?_eq_some_iff.mp e).1
    have h' : i < env'.length := by omega
    cases t <;> cases s <;> simp [this, h', e] <;> (simpa [this, h'] using h)
theorem backs_len : ∀ {ls : List Bool} {ss outs : List Sl} {env : Env'}, (backs env ls ss outs).length = env.length
  | [], _, _, _ => by simp [backs]
  | _ :: _, [], _, _ => by simp [backs]
  | _ :: _, _ :: _, [], _ => by simp [backs]
  | l :: ls, s :: ss, o :: outs, env => by
    cases l with
    | false => simp only [backs]; exact backs_len
    | true => cases s with
      | q i => simp only [backs]; rw [backs_len, backS_len]
      | _ => simp only [backs]; exact backs_len
theorem backs_get : ∀ {ls : List Bool} {ss outs : List Sl} {env : Env'} (k : Nat), (lentOf ls ss).Nodup → (backs env ls ss outs)[k]? = match lentIx ls ss k with
    | some j => (match outs[j]? with | some s => (backS env k s)[k]? | none => env[k]?)
    | none => env[k]?
  | [], _, _, _, k, _ => by simp [backs, lentIx]
  | _ :: _, [], _, _, k, _ => by simp [backs, lentIx]
  | l :: ls, s :: ss, [], env, k, _ => by
    simp only [backs]
    cases lentIx (l :: ls) (s :: ss) k <;> simp
  | l :: ls, s :: ss, o :: outs, env, k, nd => by
    have go : (lentOf ls ss).Nodup → (backs env ls ss outs)[k]? = match (lentIx ls ss k).map (· + 1) with
        | some j => (match (o :: outs)[j]? with | some s => (backS env k s)[k]? | none => env[k]?)
        | none => env[k]? := fun nd => by
      rw [backs_get k nd]
      cases lentIx ls ss k <;> rfl
    cases l with
    | false => exact go nd
    | true => cases s with
      | q i =>
        have nd : (i :: lentOf ls ss).Nodup := nd
        obtain ⟨n1, n2⟩ := List.nodup_cons.1 nd
        simp only [backs, lentIx]
        rw [backs_get k n2]
        by_cases e : i = k
        · subst e
          rw [if_pos rfl]
          have : lentIx ls ss i = none := by
            cases q : lentIx ls ss i with
            | none => rfl
            | some j => exact absurd (lentIx_mem.mp (by rw [q]; rfl)) n1
          rw [this]
          rfl
        · rw [if_neg e]
          have hk : (backS env i o)[k]? = env[k]? := backS_ne (Ne.symm e)
          cases q : lentIx ls ss k with
          | none => exact hk
          | some j =>
            simp only [Option.map_some, List.getElem?_cons_succ]
            cases outs[j]? with
            | none => exact hk
            | some t => exact backS_congr hk backS_len
      | _ => exact go nd

theorem outsOk_get : ∀ {ls : List Bool} {outs : List Sl} {j : Nat} {s : Sl}, outsOk ls outs = true → ls[j]? = some true → outs[j]? = some s → ∃ n d, s = .p n d
  | [], _, _, _, _, hh, _ => by simp at hh
  | _ :: _, [], _, _, h, _, _ => by simp [outsOk] at h
  | l :: ls, o :: outs, j, s, h, h1, h2 => by
    have h' : outsOk ls outs = true ∧ (l = true → ∃ n d, o = .p n d) := by
      cases l with
      | false => exact ⟨h, fun e => by cases e⟩
      | true => cases o with
        | p n d => exact ⟨h, fun _ => ⟨n, d, rfl⟩⟩
        | _ => simp [outsOk] at h
    cases j with
    | zero => cases h1; cases h2; exact h'.2 rfl
    | succ j => exact outsOk_get h'.1 h1 h2
section
variable {c : Cn} {m : Am} {T : Txt} {W : WX} {σ : L2.St} {H H1 : Hp} {Z Z1 : Zn} {F F1 : Fs} {env e1 : Env'} {Q : VK}
theorem Tmps.get {xs : List V} {ss : List Sl} {G : List Addr} (t : Tmps c H Z σ xs ss G) : ∀ {j : Nat} {s : Sl}, ss[j]? = some s → ∃ x Gj, xs[j]? = some x ∧ TOk c H Z σ x Gj s ∧ ∀ a ∈ Gj, a ∈ G := by
  induction t with
  | nil => intro j s e; simp at e
  | cons t _ _ ih =>
    intro j s e
    cases j with
    | zero => cases e; exact ⟨_, _, rfl, t, fun a h => List.mem_append_left _ h⟩
    | succ j =>
      obtain ⟨x, Gj, h1, h2, h3⟩ := ih e
      exact ⟨x, Gj, h1, h2, fun a h => List.mem_append_right _ (h3 a h)⟩
/-- what is clean hangs on no zone -/
theorem Rs.clean {K : PySem.W.Frag} {n : Nat} {vs : List V} {ds : List D} {G : List Addr} (h : Rs K H Z n vs ds G) : ∀ {Z' : Zn}, cleanN.cleans n ds = true → Rs K H Z' n vs ds G := by
  induction h with
  | nil => intro _ _; exact .nil
  | non _ ih => intro Z' e; simp only [cleanN.cleans, Bool.and_eq_true] at e; exact .non (ih e.2)
  | bl b _ ih => intro Z' e; simp only [cleanN.cleans, Bool.and_eq_true] at e; exact .bl b (ih e.2)
  | int b _ ih => intro Z' e; simp only [cleanN.cleans, Bool.and_eq_true] at e; exact .int b (ih e.2)
  | str b _ ih => intro Z' e; simp only [cleanN.cleans, Bool.and_eq_true] at e; exact .str b (ih e.2)
  | scr f _ ih => intro Z' e; simp only [cleanN.cleans, Bool.and_eq_true] at e; exact .scr f (ih e.2)
  | tup e0 h1 _ dj ih1 ih2 =>
    intro Z' e
    rename_i n vs ds F a xs es G _
    simp only [cleanN.cleans, Bool.and_eq_true] at e
    have him : DL.imm (.tup es) = true := by
      cases n with
      | zero => simpa [cleanN] using e.1
      | succ n => simpa [cleanN] using e.1
    obtain ⟨e1, h2⟩ := Rs.imm h1 (by simpa [DL.imm] using him)
    subst e1
    exact .tup e0 (h2 n Z') (ih2 e.2) dj
  | l0 e0 z h1 _ ih1 ih2 => intro Z' e; simp [cleanN.cleans, cleanN, DL.imm] at e
  | l1 e0 h1 _ na dj ih1 ih2 =>
    intro Z' e
    simp only [cleanN.cleans, Bool.and_eq_true, cleanN] at e
    exact .l1 e0 (ih1 e.1) (ih2 e.2) na dj
  | k0 => intro Z' e; simp [cleanN.cleans, cleanN, DL.imm] at e
  | k1 e0 ek h1 _ na dj ih1 ih2 =>
    intro Z' e
    simp only [cleanN.cleans, Bool.and_eq_true, cleanN] at e
    exact .k1 e0 ek (ih1 e.1) (ih2 e.2) na dj
  | t0 => intro Z' e; simp [cleanN.cleans, cleanN, DL.imm] at e
  | t1 e0 ek h1 _ na dj ih1 ih2 =>
    intro Z' e
    simp only [cleanN.cleans, Bool.and_eq_true, cleanN] at e
    exact .t1 e0 ek (ih1 e.1) (ih2 e.2) na dj
theorem cleanN_zero (d : D) : cleanN 0 d = DL.imm d := by simp [cleanN]
theorem Rep.clean {K : PySem.W.Frag} {n : Nat} {v : V} {d : D} {G : List Addr} {Z' : Zn} (h : Rep K H Z n v d G) (e : cleanN n d = true) : Rep K H Z' n v d G := Rs.clean h (by simp [cleanN.cleans, e])

/-- a call's arguments, for the def -/
theorem call_sp {f : Nat} {xs : List V} {ss : List Sl} {G : List Addr} (E1 : Ext H Z F H1 Z1 F1) (S1 : StOk c m H1 Z1 σ e1 F1) (t : Tmps c H1 Z1 σ xs ss G) (sp : Sep Z1 F1 G) (gs : GSub H F G)
    (h : callQ T f e1 ss (PostE c m σ H Z F Q) (PostX c m σ H Z F W)) : spC c (T.ctr f) (T.len f).length xs H1 Q (WE W σ) := by
  unfold callQ at h
  split at h
  · exact h.elim
  · rename_i as ha
    obtain ⟨nd, apart, h⟩ := h
    obtain ⟨la, ll, ga⟩ := argsS_get ha
    have lx := t.length
    have th := t.there
    generalize hls : T.len f = ls at *
    have lent_ne : ∀ {i k}, i ∈ lentOf ls ss → k ∈ namedOf ls ss → k ≠ i := fun {i k} h1 h2 e => apart i h1 (e ▸ h2)
    -- the zone and the footprints for the def
    let Zc : Zn := fun a => Z1 a ∨ a ∈ G ∨ ∃ i, i ∈ namedOf ls ss ∧ a ∈ F1 i
    let Fc : Fs := fun j => match ls[j]?, ss[j]? with
      | some true, some (.q i) => F1 i
      | _, _ => []
    have Fc_get : ∀ {j a}, a ∈ Fc j → ∃ i, ls[j]? = some true ∧ ss[j]? = some (.q i) ∧ a ∈ F1 i := fun {j a} h => by
      have h : a ∈ (match ls[j]?, ss[j]? with | some true, some (.q i) => F1 i | _, _ => []) := h
      split at h
      · rename_i i h1 h2; exact ⟨i, h1, h2, h⟩
      · cases h
    have Fc_at : ∀ {j i}, ls[j]? = some true → ss[j]? = some (.q i) → Fc j = F1 i := fun {j i} h1 h2 => by
      show (match ls[j]?, ss[j]? with | some true, some (.q i) => F1 i | _, _ => []) = F1 i
      rw [h1, h2]
    have lent_of : ∀ {j i : Nat}, ls[j]? = some true → ss[j]? = some (.q i) → i ∈ lentOf ls ss := fun h1 h2 => lentIx_mem.mp (by rw [lentIx_at nd h1 h2]; rfl)
    have zup : ∀ {K : PySem.W.Frag} {n : Nat} {vs : List V} {ds : List D} {B : List Addr}, Rs K H1 Z1 n vs ds B → Rs K H1 Zc n vs ds B := fun r => r.keep (fun _ _ e _ => e) fun _ h => .inl h
    have Sc : StOk c (am0 xs) H1 Zc (xs.map some) as Fc := by
      refine ⟨by simp [la, lx], fun j a e => ?_, fun j hj => ?_, fun j k a hjk h1 h2 => ?_, fun j a h1 hz => ?_, fun a hz => ?_⟩
      · have hj : j < ss.length := by rw [← la]; exact (List.getElem?_eq_some_iff.mp e).1
        obtain ⟨l, a', h1, h2, h3⟩ := ga j ss[j] (by simp [hj])
        rw [e] at h3; cases h3
        have hs : ss[j]? = some ss[j] := by simp [hj]
        generalize ss[j] = s at h2 hs
        obtain ⟨x, Gj, hx, tx, sub⟩ := t.get hs
        have hx' : (xs.map some)[j]? = some (some x) := by rw [List.getElem?_map, hx]; rfl
        cases l with
        | false =>
          have f0 : Fc j = [] := by
            cases q : Fc j with
            | nil => rfl
            | cons b r =>
              obtain ⟨i, k1, _, _⟩ := Fc_get (j := j) (a := b) (by rw [q]; exact List.mem_cons_self)
              rw [h1] at k1; cases k1
          cases s with
          | v d => cases h2; exact ⟨f0, x, hx', zup tx.2⟩
          | o n d => cases h2; exact ⟨f0, x, hx', Rs.freeze tx (fun _ h => .inl h) fun a ha => .inr (.inl (sub a ha))⟩
          | q i =>
            obtain ⟨_, hσ⟩ := tx
            have n1 := named_at h1 hs
            simp only [argS] at h2
            split at h2
            · rename_i d q
              cases h2
              obtain ⟨_, y, h4, r⟩ := S1.sl i _ q
              rw [hσ] at h4; cases h4
              exact ⟨f0, x, hx', zup r⟩
            · rename_i n d q
              cases h2
              obtain ⟨y, h4, r⟩ := S1.sl i _ q
              rw [hσ] at h4; cases h4
              exact ⟨f0, x, hx', r.freeze (fun _ h => .inl h) fun a ha => .inr (.inr ⟨i, n1, ha⟩)⟩
            · rename_i n d q
              cases h2
              obtain ⟨y, h4, _, r⟩ := S1.sl i _ q
              rw [hσ] at h4; cases h4
              exact ⟨f0, x, hx', r.freeze (fun _ h => .inl h) fun a ha => .inr (.inr ⟨i, n1, ha⟩)⟩
            · rename_i b n d q
              cases h2
              obtain ⟨y, h4, _, r⟩ := S1.sl i _ q
              rw [hσ] at h4; cases h4
              exact ⟨f0, x, hx', r.freeze (fun _ h => .inl h) fun a ha => .inr (.inr ⟨i, n1, ha⟩)⟩
            · cases h2
          | no => cases h2
          | p n d => cases h2
          | w b n d => cases h2
          | x e => cases h2
        | true =>
          cases s with
          | q i =>
            obtain ⟨_, hσ⟩ := tx
            simp only [argS] at h2
            split at h2
            · rename_i n d q
              cases h2
              obtain ⟨y, h4, r⟩ := S1.sl i _ q
              rw [hσ] at h4; cases h4
              refine ⟨x, hx', hx, ?_⟩
              rw [Fc_at h1 hs]; exact zup r
            · rename_i n d q
              cases h2
              obtain ⟨y, h4, _, r⟩ := S1.sl i _ q
              rw [hσ] at h4; cases h4
              refine ⟨x, hx', hx, ?_⟩
              rw [Fc_at h1 hs]; exact zup r
            · cases h2
          | _ => cases h2
      · cases q : Fc j with
        | nil => rfl
        | cons b r =>
          obtain ⟨i, _, k2, _⟩ := Fc_get (j := j) (a := b) (by rw [q]; exact List.mem_cons_self)
          have := (List.getElem?_eq_some_iff.mp k2).1
          omega
      · obtain ⟨i, i1, i2, i3⟩ := Fc_get h1
        obtain ⟨i', j1, j2, j3⟩ := Fc_get h2
        by_cases e : i = i'
        · subst e
          have a1 := lentIx_at nd i1 i2
          have a2 := lentIx_at nd j1 j2
          rw [a1] at a2
          exact hjk (Option.some.inj a2)
        · exact S1.dis i i' a e i3 j3
      · obtain ⟨i, i1, i2, i3⟩ := Fc_get h1
        rcases hz with hz | hz | ⟨i', n1, n2⟩
        · exact S1.zn i a i3 hz
        · exact sp.f a hz i i3
        · exact S1.dis i' i a (lent_ne (lent_of i1 i2) n1) n2 i3
      · rcases hz with hz | hz | ⟨i', n1, n2⟩
        · exact S1.zh a hz
        · exact th a hz
        · exact S1.there n2
    -- behind the call
    have back : ∀ {outs : List Sl} {H' : Hp} {Z' : Zn} {F' : Fs}, Ext H1 Zc Fc H' Z' F' → StOk c (am0 xs) H' Z' (xs.map some) outs F' → outsOk ls outs = true → (borrows e1 ls ss = true → ∀ t ∈ outs, t.clean = true) →
        let Z2 : Zn := fun a => Z' a ∧ ∀ i ∈ namedOf ls ss, a ∉ F1 i
        let F2 : Fs := fun i => match lentIx ls ss i with | some j => F' j | none => F1 i
        Ext H Z F H' Z2 F2 ∧ StOk c m H' Z2 σ (backs e1 ls ss outs) F2 ∧ (∀ (j i : Nat), ls[j]? = some true → ss[j]? = some (.q i) → F2 i = F' j) ∧ (borrows e1 ls ss = false → ∀ a, Z' a → Z2 a) ∧ (∀ a, H1 a ≠ none → H' a ≠ none) := by
      intro outs H' Z' F' E2 So ok cl Z2 F2
      have F2_at : ∀ (j i : Nat), ls[j]? = some true → ss[j]? = some (.q i) → F2 i = F' j := fun j i h1 h2 => by
        show (match lentIx ls ss i with | some j => F' j | none => F1 i) = F' j
        rw [lentIx_at nd h1 h2]
      have F2_no : ∀ i, lentIx ls ss i = none → F2 i = F1 i := fun i e => by
        show (match lentIx ls ss i with | some j => F' j | none => F1 i) = F1 i
        rw [e]
      have F2_some : ∀ i j, lentIx ls ss i = some j → F2 i = F' j := fun i j e => by
        show (match lentIx ls ss i with | some j => F' j | none => F1 i) = F' j
        rw [e]
      have keep1 : ∀ a o, H1 a = some o → (¬ Mut (some o) ∨ ∀ i, i ∈ lentOf ls ss → a ∉ F1 i) → H' a = some o := fun a o e k => E2.keep a o e (k.imp id fun k j hj => by
        obtain ⟨i, i1, i2, i3⟩ := Fc_get hj
        exact k i (lent_of i1 i2) i3)
      have z12 : ∀ a, Z1 a → Z2 a := fun a hz => ⟨E2.zsub a (.inl hz), fun i _ hi => S1.zn i a hi hz⟩
      have nolent : ∀ {i}, lentIx ls ss i = none → i ∉ lentOf ls ss := fun {i} e hm => by
        have := lentIx_mem.mpr hm
        rw [e] at this; cases this
      have noclean : borrows e1 ls ss = false → ∀ a, Z' a → Z2 a := fun hb a hz => ⟨hz, fun i hi hm => by
        obtain ⟨d, q⟩ := borrows_get hb i hi
        have := (S1.sl i _ q).1
        rw [this] at hm; cases hm⟩
      refine ⟨⟨fun a o e k => ?_, fun a e => E2.dom a (E1.dom a e), fun i a hi => ?_, fun a hz => z12 a (E1.zsub a hz), fun a hz => ?_⟩, ⟨?_, fun i s e => ?_, fun i hi => ?_, fun i k a hik h1 h2 => ?_, fun i a h1 hz => ?_, fun a hz => So.zh a hz.1⟩, F2_at, noclean, E2.dom⟩
      · refine keep1 a o (E1.keep a o e k) (k.imp id fun k i _ hi => ?_)
        rcases E1.fsub i a hi with ⟨j, hj⟩ | hn
        · exact k j hj
        · rw [hn] at e; cases e
      · cases q : lentIx ls ss i with
        | none => rw [F2_no i q] at hi; exact E1.fsub i a hi
        | some j =>
          rw [F2_some i j q] at hi
          rcases E2.fsub j a hi with ⟨j', hj'⟩ | hn
          · obtain ⟨i', _, _, i3⟩ := Fc_get hj'
            exact E1.fsub i' a i3
          · exact .inr (none_of fun q => E1.dom a q hn)
      · rcases E2.znew a hz.1 with (hz1 | hg | ⟨i, n1, n2⟩) | ⟨j, hj⟩ | hn
        · exact E1.znew a hz1
        · exact .inr (gs a hg)
        · exact absurd n2 (hz.2 i n1)
        · obtain ⟨i', _, _, i3⟩ := Fc_get hj
          exact .inr (E1.fsub i' a i3)
        · exact .inr (.inr (none_of fun q => E1.dom a q hn))
      · rw [backs_len]; exact S1.len
      · rw [backs_get i nd] at e
        cases q : lentIx ls ss i with
        | none =>
          rw [q] at e
          rw [F2_no i q]
          exact (S1.sl i s e).ext (fun a ha => by
            have := S1.there ha
            cases e0 : H1 a with
            | none => exact absurd e0 this
            | some o => exact keep1 a o e0 (.inr fun i' hi' hm => S1.dis i' i a (fun e => nolent q (e ▸ hi')) hm ha)) (fun a o e k => keep1 a o e (k.imp id fun z i' _ hm => S1.zn i' a hm z)) z12
        | some j =>
          rw [q] at e
          rw [F2_some i j q]
          obtain ⟨q1, q2⟩ := lentIx_get q
          obtain ⟨x, Gj, hx, tx, _⟩ := t.get q2
          have hσ : σ[i]? = some (some x) := tx.2
          have hlo : j < outs.length := by
            have h1 := So.len
            have h2 := (List.getElem?_eq_some_iff.mp q2).1
            rw [h1, List.length_map, lx]; exact h2
          have ho : outs[j]? = some outs[j] := by simp [hlo]
          have e : (backS e1 i outs[j])[i]? = some s := by simpa [ho] using e
          have so := So.sl j _ ho
          have cl' : borrows e1 ls ss = true → outs[j].clean = true := fun hb => cl hb _ (List.getElem_mem hlo)
          have okj := outsOk_get ok q1 ho
          generalize outs[j] = t' at e so cl' okj
          obtain ⟨n', d', rfl⟩ := okj
          obtain ⟨x', hx2, hx3, r⟩ := so
          have : x' = x := by
            have h : (am0 xs).pv j = some x := hx
            rw [h] at hx3; exact (Option.some.inj hx3).symm
          subst this
          have r2 : Rep c.K H' Z2 (n' + 1) x' d' (F' j) := by
            cases hb : borrows e1 ls ss with
            | true => exact Rep.clean r (cl' hb)
            | false => exact r.keep (fun _ _ e _ => e) (noclean hb)
          -- the slot ahead of the call was owned
          obtain ⟨l', a', b1, b2, _⟩ := ga j _ q2
          rw [q1] at b1; cases b1
          simp only [argS] at b2
          split at b2
          · rename_i n d q
            have hil : i < e1.length := (List.getElem?_eq_some_iff.mp q).1
            unfold backS at e
            rw [q] at e
            have : s = .o n' d' := get_set_same e
            subst this
            exact ⟨x', hσ, r2⟩
          · rename_i n d q
            have hil : i < e1.length := (List.getElem?_eq_some_iff.mp q).1
            unfold backS at e
            rw [q] at e
            have : s = .p n' d' := get_set_same e
            subst this
            obtain ⟨y, h4, h5, _⟩ := S1.sl i _ q
            rw [hσ] at h4; cases h4
            exact ⟨x', hσ, h5, r2⟩
          · cases b2
      · rw [backs_len] at hi
        cases q : lentIx ls ss i with
        | none => rw [F2_no i q]; exact S1.out i hi
        | some j =>
          obtain ⟨q1, q2⟩ := lentIx_get q
          obtain ⟨x, Gj, hx, tx, _⟩ := t.get q2
          have := (List.getElem?_eq_some_iff.mp tx.2).1
          rw [← S1.len] at this
          omega
      · have old : ∀ {i j}, lentIx ls ss i = some j → a ∈ F' j → ∀ k, lentIx ls ss k = none → a ∉ F1 k := fun {i j} q h k qk hk => by
          rcases E2.fsub j a h with ⟨j', hj'⟩ | hn
          · obtain ⟨i', i1, i2, i3⟩ := Fc_get hj'
            have : i' ≠ k := fun e => nolent qk (e ▸ lent_of i1 i2)
            exact S1.dis i' k a this i3 hk
          · exact S1.there hk hn
        cases q : lentIx ls ss i with
        | none =>
          rw [F2_no i q] at h1
          cases q2 : lentIx ls ss k with
          | none => rw [F2_no k q2] at h2; exact S1.dis i k a hik h1 h2
          | some j => rw [F2_some k j q2] at h2; exact old q2 h2 i q h1
        | some j =>
          rw [F2_some i j q] at h1
          cases q2 : lentIx ls ss k with
          | none => rw [F2_no k q2] at h2; exact old q h1 k q2 h2
          | some j' =>
            rw [F2_some k j' q2] at h2
            refine So.dis j j' a (fun e => hik ?_) h1 h2
            subst e
            have a1 := (lentIx_get q).2
            have a2 := (lentIx_get q2).2
            rw [a1] at a2; cases a2; rfl
      · cases q : lentIx ls ss i with
        | some j => rw [F2_some i j q] at h1; exact So.zn j a h1 hz.1
        | none =>
          rw [F2_no i q] at h1
          rcases E2.znew a hz.1 with (hz1 | hg | ⟨i', n1, n2⟩) | ⟨j, hj⟩ | hn
          · exact S1.zn i a h1 hz1
          · exact sp.f a hg i h1
          · by_cases e : i' = i
            · subst e; exact hz.2 i' n1 h1
            · exact S1.dis i' i a e n2 h1
          · obtain ⟨i', i1, i2, i3⟩ := Fc_get hj
            exact S1.dis i' i a (fun e => nolent q (e ▸ lent_of i1 i2)) i3 h1
          · exact S1.there h1 hn
    refine ⟨by rw [lx, ll], Zc, as, Fc, Sc, (T.ctr f).mono h (fun s outs q v H' Z' F' G' E2 So tv sv gv => ?_) fun e outs q cls d H' Z' F' E2 So xv => ?_⟩
    · obtain ⟨ok, cl, q⟩ := q
      obtain ⟨E3, S3, _, noclean, _⟩ := back E2 So ok fun hb => (cl hb).2
      refine q v H' _ _ G' E3 S3 ?_ ⟨fun a ha hz => sv.z a ha hz.1, fun a ha i hi => ?_⟩ fun a ha => ?_
      · have up : ∀ {n : Nat} {d : D} {B : List Addr}, Rep c.K H' Z' n v d B → (borrows e1 ls ss = true → cleanN n d = true) → Rep c.K H' (fun a => Z' a ∧ ∀ i ∈ namedOf ls ss, a ∉ F1 i) n v d B := fun {n d B} r hc => by
          cases hb : borrows e1 ls ss with
          | true => exact Rep.clean r (hc hb)
          | false => exact r.keep (fun _ _ e _ => e) (noclean hb)
        cases s with
        | v d => exact ⟨tv.1, up tv.2 fun hb => by rw [cleanN_zero]; exact (cl hb).1⟩
        | o n d => exact up tv fun hb => (cl hb).1
        | q i => have := tv.2; simp at this
        | no => exact tv.elim
        | p n d => exact tv.elim
        | w b n d => exact tv.elim
        | x e => exact tv.elim
      · have hi : a ∈ (match lentIx ls ss i with | some j => F' j | none => F1 i) := hi
        split at hi
        · exact sv.f a ha _ hi
        · rename_i q
          rcases gv a ha with ⟨j, hj⟩ | hn
          · obtain ⟨i', i1, i2, i3⟩ := Fc_get hj
            have := lentIx_at nd i1 i2
            exact S1.dis i' i a (fun e => by subst e; rw [q] at this; cases this) i3 hi
          · exact S1.there hi hn
      · rcases gv a ha with ⟨j, hj⟩ | hn
        · obtain ⟨i', i1, i2, i3⟩ := Fc_get hj
          exact E1.fsub i' a i3
        · exact .inr (none_of fun q => E1.dom a q hn)
    · obtain ⟨ok, cl, q⟩ := q
      obtain ⟨E3, S3, _, noclean, _⟩ := back E2 So ok fun hb => (cl hb).2
      refine q cls d H' _ _ E3 S3 ⟨xv.1, ?_⟩
      have x2 := xv.2
      split at x2
      · trivial
      · rename_i y hy
        obtain ⟨a, v, a1, a2, r⟩ := x2
        refine ⟨a, v, a1, a2, ?_⟩
        cases hb : borrows e1 ls ss with
        | true => exact Rep.clean r (by rw [cleanN_zero]; exact (cl hb).1 y hy)
        | false => exact r.keep (fun _ _ e _ => e) (noclean hb)
end
end DL
end
section
set_option Elab.async false
set_option linter.all false
set_option maxRecDepth 100000
set_option maxHeartbeats 3900000
/-! DL9: expressions, node by node. -/
namespace DL
open PySem PySem.Spec L2

/-- what a def's context bears -/
structure CB (X : Cx) (c : Cn) (N : List Str) (sc : Scope) (fx : Str → Bool) : Prop where
  hf : ∀ x, fx x = true → X.fn x = true
  hK : c.K = X.K
  hN : X.N = N
  nd : N.Nodup
  hs : X.env.scope = sc
  hu : X.A.units + 65 < cLine
  hg : X.A.guards = some []
  bl : ∀ x ∈ (["abs", "all", "any", "bool", "dict", "enumerate", "int", "isinstance", "len", "list", "max", "min", "range", "repr", "sorted", "str", "sum", "tuple", "zip"] : List Str), X.mg x = none

def visC (sc : Scope) (N : List Str) (i : Nat) (x : Str) : Bool := decide (N[i]? = some x) && (decide (sc.names.lookup x = some .local) || decide (sc.names.lookup x = some .cell) || decide (sc.names.lookup x = some .free)) && !(x == ("__debug__" : Str)) && !(x == ("__classdict__" : Str))
def glC (sc : Scope) (x : Str) : Bool := decide (sc.names.lookup x = some .globalImplicit) && !(x == ("__debug__" : Str))

section
variable {X : Cx} {c : Cn} {m : Am} {T : Txt} {W : WX} {N : List Str} {sc : Scope} {fx : Str → Bool} {e a b d : Expr} {es : List Expr} {r ra rb rc : RE} {rs : List RE} {pos p2 p3 : Pos}
theorem _root_.L2.PE.imp' {X : Cx} {e : Expr} {t t' : TE} (h : PE X e t) (k : ∀ σ H Q, t' σ H Q → t σ H Q) : PE X e t' := ⟨fun pn0 s σ H Q I q => h.run pn0 s σ H Q I (k σ H Q q)⟩
theorem _root_.L2.PT.imp' {X : Cx} {e : Expr} {t t' : TT} (h : PT X e t) (k : ∀ σ H Q, t' σ H Q → t σ H Q) : PT X e t' := ⟨fun pn0 s σ H Q I q => h.run pn0 s σ H Q I (k σ H Q q)⟩
theorem _root_.L2.PW.imp' {X : Cx} {e : Expr} {t t' : TT} (h : PW X e t) (k : ∀ σ H Q, t' σ H Q → t σ H Q) : PW X e t' := ⟨fun w pn0 s σ H Q I q => h.run w pn0 s σ H Q I (k σ H Q q)⟩
theorem rdE_mono {σ : L2.St} {H : Hp} {Q Q' : VK} (h : rdE c m T W r σ H Q) (k : ∀ x H, Q x H → Q' x H) : rdE c m T W r σ H Q' := by
  obtain ⟨env, Z, F, S, h⟩ := h
  exact ⟨env, Z, F, S, wpE_mono r env h (fun s e q x H' Z' F' G a1 a2 a3 a4 a5 => k _ _ (q x H' Z' F' G a1 a2 a3 a4 a5)) fun _ _ h => h⟩
theorem CB.vis (B : CB X c N sc fx) {i : Nat} {x : Str} (h : visC sc N i x = true) : X.N[i]? = some x ∧ Vis X.env.scope x ∧ (x == ("__debug__" : Str)) = false ∧ (x == ("__classdict__" : Str)) = false := by
  unfold visC at h
  simp only [Bool.and_eq_true, Bool.or_eq_true, decide_eq_true_eq, Bool.not_eq_true'] at h
  refine ⟨by rw [B.hN]; exact h.1.1.1, ?_, h.1.2, h.2⟩
  rw [B.hs]
  rcases h.1.1.2 with (h | h) | h
  · exact .inl h
  · exact .inr (.inl h)
  · exact .inr (.inr h)
theorem CB.gl (B : CB X c N sc fx) {x : Str} (h : glC sc x = true) : Gl X x ∧ (x == ("__debug__" : Str)) = false := by
  unfold glC at h
  simp only [Bool.and_eq_true, decide_eq_true_eq, Bool.not_eq_true'] at h
  refine ⟨?_, h.2⟩
  show X.env.scope.names.lookup x = _
  rw [B.hs]; exact h.1

/-! ### constants, names -/
theorem lit_fin {σ : L2.St} {H : Hp} {Z : Zn} {F : Fs} {Q : VK} {env : Env'} {x : V} {d : D} (S : StOk c m H Z σ env F) (h : PostE c m σ H Z F Q (.v d) env) (r : Rep c.K H Z 0 x d []) : Q x H :=
  h x H Z F [] (Ext.refl ..) S ⟨rfl, r⟩ Sep.nil GSub.nil
theorem e_int {i : Int} {j : Nat} : PE X (.Constant (.int i) j pos) (rdE c m T W (.lit (.int i))) := pe_int.imp' fun σ H Q ⟨env, Z, F, S, h⟩ => by
  simp only [wpE] at h
  exact lit_fin S h (Rs.int i .nil)
theorem e_bl {i : Bool} {j : Nat} : PE X (.Constant (.bool i) j pos) (rdE c m T W (.lit (.bl i))) := pe_bl.imp' fun σ H Q ⟨env, Z, F, S, h⟩ => by
  simp only [wpE] at h
  exact lit_fin S h (Rs.bl i .nil)
theorem e_str {i : Str} {j : Nat} : PE X (.Constant (.str i) j pos) (rdE c m T W (.lit (.str i))) := pe_str.imp' fun σ H Q ⟨env, Z, F, S, h⟩ => by
  simp only [wpE] at h
  exact lit_fin S h (Rs.str i .nil)
theorem e_non {j : Nat} : PE X (.Constant .none j pos) (rdE c m T W (.lit .non)) := pe_non.imp' fun σ H Q ⟨env, Z, F, S, h⟩ => by
  simp only [wpE] at h
  exact lit_fin S h (Rs.non .nil)
/-- a module's constant -/
def Gc (X : Cx) (T : Txt) (g : Nat) (x : Str) : Prop := ∃ v u, X.mg x = some u ∧ RelV v u ∧ ∀ K H Z, Rep K H Z 0 v (T.cst g) []
theorem e_glb {g : Nat} {x : Str} (B : CB X c N sc fx) (hk : Gc X T g x) (hg : glC sc x = true) : PE X (.Name x pos) (rdE c m T W (.glb g)) := by
  obtain ⟨v, u, h1, h2, h3⟩ := hk
  obtain ⟨g1, g2⟩ := B.gl hg
  exact (pe_glob g1 h1 h2 g2).imp' fun σ H Q ⟨env, Z, F, S, h⟩ => by
    simp only [wpE] at h
    exact lit_fin S h (h3 _ _ _)
theorem tk_fin {σ : L2.St} {H : Hp} {Z : Zn} {F : Fs} {Q : VK} {env : Env'} {i n : Nat} {d : D} (S : StOk c m H Z σ env F) (e : env[i]? = some (.o n d)) (h : PostE c m σ H Z F Q (.o n d) (env.set i .no)) : ∃ x, σ[i]? = some (some x) ∧ Q x H := by
  obtain ⟨x, h1, r⟩ := S.sl i _ e
  refine ⟨x, h1, h x H Z (fset F i []) (F i) (Ext.alt (Ext.refl ..) fun _ h => by cases h) (S.alt (List.getElem?_eq_some_iff.mp e).1 (fun _ h => by cases h) (show SlOk c m H Z σ i [] .no from rfl)) r ⟨fun a ha => S.zn i a ha, fun a ha j hj => ?_⟩ fun a ha => .inl ⟨i, ha⟩⟩
  by_cases q : j = i
  · subst q; rw [fset_same] at hj; cases hj
  · rw [fset_ne q] at hj; exact S.dis j i a q hj ha
theorem e_var {i : Nat} {x : Str} (B : CB X c N sc fx) (hv : visC sc N i x = true) : PE X (.Name x pos) (rdE c m T W (.var i)) := by
  obtain ⟨v1, v2, v3, v4⟩ := B.vis hv
  exact (pe_var v1 v2 v3 v4).imp' fun σ H Q ⟨env, Z, F, S, h⟩ => by
    simp only [wpE] at h
    split at h
    · rename_i d e
      obtain ⟨_, x, h1, r⟩ := S.sl i _ e
      exact ⟨x, h1, lit_fin S h r⟩
    · rename_i n d e
      have S2 := S.frz e
      obtain ⟨x, h1, r⟩ := S.sl i _ e
      refine ⟨x, h1, h x H _ _ [] Ext.frz S2 ⟨rfl, ?_⟩ Sep.nil GSub.nil⟩
      exact r.freeze (fun _ h => .inl h) fun _ h => .inr h
    · exact h.elim
theorem e_mv {i : Nat} {x : Str} (B : CB X c N sc fx) (hv : visC sc N i x = true) : PE X (.Name x pos) (rdE c m T W (.mv i)) := by
  obtain ⟨v1, v2, v3, v4⟩ := B.vis hv
  exact (pe_var v1 v2 v3 v4).imp' fun σ H Q ⟨env, Z, F, S, h⟩ => by
    simp only [wpE] at h
    split at h
    · rename_i d e
      obtain ⟨_, x, h1, r⟩ := S.sl i _ e
      exact ⟨x, h1, lit_fin S h r⟩
    · rename_i n d e
      exact tk_fin S e h
    · exact h.elim
theorem okPk_val {H : Hp} {Z : Zn} {σ : L2.St} {F : Fs} {env : Env'} {i : Nat} (S : StOk c m H Z σ env F) (h : okPk env i) : ∃ x, σ[i]? = some (some x) := by
  unfold okPk at h
  split at h
  · rename_i e; obtain ⟨_, x, h1, _⟩ := S.sl i _ e; exact ⟨x, h1⟩
  · rename_i e; obtain ⟨x, h1, _⟩ := S.sl i _ e; exact ⟨x, h1⟩
  · rename_i e; obtain ⟨x, h1, _⟩ := S.sl i _ e; exact ⟨x, h1⟩
  · rename_i e; obtain ⟨x, h1, _⟩ := S.sl i _ e; exact ⟨x, h1⟩
  · exact h.elim
theorem e_pk {i : Nat} {x : Str} (B : CB X c N sc fx) (hv : visC sc N i x = true) : PE X (.Name x pos) (rdE c m T W (.pk i)) := by
  obtain ⟨v1, v2, v3, v4⟩ := B.vis hv
  exact (pe_var v1 v2 v3 v4).imp' fun σ H Q ⟨env, Z, F, S, h⟩ => by
    simp only [wpE] at h
    obtain ⟨x, hx⟩ := okPk_val S h.1
    exact ⟨x, hx, h.2 x H Z F [] (Ext.refl ..) S ⟨rfl, hx⟩ Sep.nil GSub.nil⟩

/-! ### operations -/
theorem ivs_one {H : Hp} {Z : Zn} {x : V} {ds : List D} (h : IVs c H Z [x] ds) : ∃ d, ds = [d] ∧ IV c H Z x d := by
  cases h with | cons h t => cases t; exact ⟨_, rfl, h⟩
theorem ivs_two {H : Hp} {Z : Zn} {x y : V} {ds : List D} (h : IVs c H Z [x, y] ds) : ∃ d e, ds = [d, e] ∧ IV c H Z x d ∧ IV c H Z y e := by
  cases h with | cons h t => obtain ⟨e, rfl, h2⟩ := ivs_one t; exact ⟨_, _, rfl, h, h2⟩
theorem rn_two {p : Pr} {x y : V} {H : Hp} {Q : VK} (h : rn c p [x, y] H Q) : r2 c p x y H Q := by
  obtain ⟨Z, ds, h1, h2⟩ := h
  obtain ⟨d, e, rfl, h3, h4⟩ := ivs_two h1
  exact ⟨Z, d, e, h3, h4, h2⟩
theorem rn_one {p : Pr} {x : V} {H : Hp} {Q : VK} (h : rn c p [x] H Q) : r1 c p x H Q := by
  obtain ⟨Z, ds, h1, h2⟩ := h
  obtain ⟨d, rfl, h3⟩ := ivs_one h1
  exact ⟨Z, d, h3, h2⟩
def on2 (r : V → V → Hp → Prop) : List V → Hp → Prop
  | [x, y], H => r x y H
  | _, _ => True
def on1 (r : V → Hp → Prop) : List V → Hp → Prop
  | [x], H => r x H
  | _, _ => True
theorem two_read {p : Pr} {σ : L2.St} {H : Hp} {Q : VK} (nd : isDisp p = false) (h : rdE c m T W (.prim p [ra, rb]) σ H Q) : tOp (r2 c p) (rdE c m T W ra) (rdE c m T W rb) σ H Q :=
  prim_read (R := on2 fun x y H => r2 c p x y H Q) nd (fun xs H h => by
    match xs with
    | [] => trivial
    | [x] => trivial
    | [x, y] => exact rn_two h
    | _ :: _ :: _ :: _ => trivial) h
theorem one_read {p : Pr} {σ : L2.St} {H : Hp} {Q : VK} (nd : isDisp p = false) (h : rdE c m T W (.prim p [ra]) σ H Q) : tUn (r1 c p) (rdE c m T W ra) σ H Q :=
  prim_read (R := on1 fun x H => r1 c p x H Q) nd (fun xs H h => by
    match xs with
    | [] => trivial
    | [x] => exact rn_one h
    | _ :: _ :: _ => trivial) h
theorem e_bin {op : Operator} {p : Pr} (ho : OpR X (binaryOp op) (r2 c p)) (ha : PE X a (rdE c m T W ra)) (hb : PE X b (rdE c m T W rb)) (nd : isDisp p = false := by rfl) : PE X (.BinOp a op b pos) (rdE c m T W (.prim p [ra, rb])) :=
  (pe_op ho ha hb).imp' fun _ _ _ h => two_read nd h
theorem e_neg (ha : PE X a (rdE c m T W ra)) : PE X (.UnaryOp .USub a pos) (rdE c m T W (.prim .neg [ra])) :=
  (pe_un u_neg ha).imp' fun _ _ _ h => one_read rfl h
theorem e_cmp {op : CmpOp} {p : Pr} (ho : OpR X (compareOp op) (r2 c p)) (ha : PE X a (rdE c m T W ra)) (hb : PE X b (rdE c m T W rb)) (hm : behindInMarks op b = false := by first | exact nobehind _ (by decide) (by decide) | rfl) (nd : isDisp p = false := by rfl) : PE X (.Compare a [op] [b] pos) (rdE c m T W (.prim p [ra, rb])) :=
  (pe_cmpR ho ha hb hm).imp' fun _ _ _ h => two_read nd h
theorem t_cmp {op : CmpOp} {p : Pr} (ho : OpR X (compareOp op) (r2 c p)) (ha : PE X a (rdE c m T W ra)) (hb : PE X b (rdE c m T W rb)) (hm : behindInMarks op b = false := by first | exact nobehind _ (by decide) (by decide) | rfl) (hp : isCmp p = true := by rfl) (nd : isDisp p = false := by rfl) : PT X (.Compare a [op] [b] pos) (rdT c m T W (.prim p [ra, rb])) :=
  (pt_cmpR ho ha hb hm).imp' fun _ _ _ h => two_read nd (cmp_read hp h)
/-- a chain -/
theorem chain_read {p q : Pr} {σ : L2.St} {H : Hp} {Q : VK} (np : isDisp p = false) (nq : isDisp q = false) (h : rdE c m T W (.chn p q ra rb rc) σ H Q) :
    tChain (r2 c p) (r2 c q) (rdE c m T W ra) (rdE c m T W rb) (rdE c m T W rc) σ H Q := by
  obtain ⟨env, Z, F, S, h⟩ := h
  simp only [wpE] at h
  refine ⟨env, Z, F, S, wpE_mono ra env h (fun sa e1 h1 x H1 Z1 F1 G1 E1 S1 t1 sp1 gs1 => ?_) fun _ _ h => h⟩
  refine ⟨e1, Z1, F1, S1, wpE_mono rb e1 h1 (fun sb e2 h2 y H2 Z2 F2 G2 E2 S2 t2 sp2 gs2 => ?_) fun _ _ h => h.from E1⟩
  have t12 : Tmps c H2 Z2 σ [x, y] [sa, sb] (G1 ++ (G2 ++ [])) := .cons (t1.ext sp1 S1.zn E2) (.cons t2 .nil Dj.nil_r) (by simpa using Dj.later S1 sp1 t1.there gs2)
  have sp12 : Sep Z2 F2 (G1 ++ (G2 ++ [])) := (sp1.ext t1.there E2).both (by simpa using sp2)
  have gs12 : GSub H F (G1 ++ (G2 ++ [])) := gs1.append (by simpa using gs2.back E1)
  have th := t12.there
  rw [primQ_eq (nest_nd np)] at h2
  unfold primQ.primQ0 at h2
  split at h2
  · rename_i zs hz
    have V12 := Vws.of (G0 := G1 ++ (G2 ++ [])) S2 t12 (fun _ h => h) hz
    -- the second operand, later
    have later : ∀ (v : V) (H' : Hp), (∀ a o, H2 a = some o → H' a = some o) → ∀ (b : Bool), v = .bl b → (match (Sl.v (.bl b)) with
        | .v (.bl true) => wpE T rc e2 (fun sc e3 => primQ q e3 [sb, sc] fun s => PostE c m σ H Z F Q s e3) (PostX c m σ H Z F W)
        | .v (.bl false) => PostE c m σ H Z F Q (.v (.bl false)) e2
        | _ => False) → ∃ k, v = .bl k ∧ (if k = true then rdE c m T W rc σ H' (fun w H4 => r2 c q y w H4 Q) else Q (.bl false) H') := by
      intro v H' k b hv hh
      refine ⟨b, hv, ?_⟩
      have S3 : StOk c m H' Z2 σ e2 F2 := S2.grow k
      have E3 : Ext H2 Z2 F2 H' Z2 F2 := Ext.grow k
      cases b with
      | false => exact hh (.bl false) H' Z2 F2 [] ((E1.trans E2).trans E3) S3 ⟨rfl, Rs.bl false .nil⟩ Sep.nil GSub.nil
      | true =>
        refine ⟨e2, Z2, F2, S3, wpE_mono rc e2 hh (fun sc e3 h4 w H4 Z4 F4 G4 E4 S4 t4 sp4 gs4 => ?_) fun _ _ h => h.from ((E1.trans E2).trans E3)⟩
        have tb : Tmps c H4 Z4 σ [y, w] [sb, sc] (G2 ++ (G4 ++ [])) := .cons ((t2.ext sp2 S2.zn E3).ext (sp2.ext t2.there E3) S3.zn E4) (.cons t4 .nil Dj.nil_r) (by simpa using Dj.later S3 (sp2.ext t2.there E3) (t2.ext sp2 S2.zn E3).there gs4)
        exact rn_two (prim_rn nq (((E1.trans E2).trans E3).trans E4) S4 tb (((sp2.ext t2.there E3).ext (t2.ext sp2 S2.zn E3).there E4).both (by simpa using sp4)) ((gs2.back E1).append (by simpa using gs4.back ((E1.trans E2).trans E3))) h4)
    -- the first comparison
    have fin : ∀ (d : D) (H0 : Zn), (match mkR p d with
        | .v (.bl true) => wpE T rc e2 (fun sc e3 => primQ q e3 [sb, sc] fun s => PostE c m σ H Z F Q s e3) (PostX c m σ H Z F W)
        | .v (.bl false) => PostE c m σ H Z F Q (.v (.bl false)) e2
        | _ => False) → Res c H2 H0 p (fun z H3 => ∃ k, z = .bl k ∧ (if k = true then rdE c m T W rc σ H3 (fun w' H4 => r2 c q y w' H4 Q) else Q (.bl false) H3)) d := by
      intro d Z0 hh v H' k hr
      unfold mkR at hh
      split at hr
      · rename_i hf
        rw [if_pos hf] at hh
        exact hh.elim
      · rename_i hf
        rw [if_neg hf] at hh
        cases d with
        | bl b => exact later v H' k b (Rep.bl_inv hr).1 hh
        | _ => exact hh.elim
    by_cases fl : zs.all Rz.flat = true
    · exact rn_two ⟨_, _, V12.iv fl, pw_mono h2 fun d q => fin d _ q.2⟩
    · refine rn_two ⟨_, _, V12.ivT, pw_mono h2 fun d q => fin d _ q.2⟩
  · exact h2.elim
theorem e_chain {o1 o2 : CmpOp} {p q : Pr} (h1 : OpR X (compareOp o1) (r2 c p)) (h2 : OpR X (compareOp o2) (r2 c q)) (ha : PE X a (rdE c m T W ra)) (hb : PE X b (rdE c m T W rb)) (hd : PE X d (rdE c m T W rc))
    (hm : lastMarks [o1, o2] [b, d] = false := by with_unfolding_all rfl) (np : isDisp p = false := by rfl) (nq : isDisp q = false := by rfl) : PE X (.Compare a [o1, o2] [b, d] pos) (rdE c m T W (.chn p q ra rb rc)) :=
  (pe_chain h1 h2 ha hb hd hm).imp' fun _ _ _ h => chain_read np nq h
theorem mkR_cmp {p : Pr} {b : Bool} (hp : isCmp p = true) : mkR p (.bl b) = .v (.bl b) := by unfold mkR; rw [if_neg (by rw [fresh_bl hp]; simp)]
theorem chain_bl {p q : Pr} {σ : L2.St} {H : Hp} {Q : Bool → Hp → Prop} (hq : isCmp q = true) (h : rdT c m T W (.chn p q ra rb rc) σ H Q) : rdE c m T W (.chn p q ra rb rc) σ H fun x H' => ∃ k, x = .bl k ∧ Q k H' := by
  obtain ⟨env, Z, F, S, h⟩ := h
  refine ⟨env, Z, F, S, ?_⟩
  simp only [wpE] at h ⊢
  refine wpE_mono ra env h (fun sa e1 h1 => wpE_mono rb e1 h1 (fun sb e2 h2 => primQ_mono h2 fun s h3 => ?_) fun _ _ h => h) fun _ _ h => h
  have one : ∀ {b : Bool} {e' : Env'}, tstQ (.v (.bl b)) e' (fun b => PostB c m σ H Z F Q b e') → PostE c m σ H Z F (fun x H' => ∃ k, x = .bl k ∧ Q k H') (.v (.bl b)) e' := fun {b e'} hh x H1 Z1 F1 G E1 S1 t sp gs =>
    ⟨b, (Rep.bl_inv t.2).1, hh H1 Z1 F1 E1 S1⟩
  split at h3
  · refine wpE_mono rc e2 h3 (fun sc e3 h4 => ?_) fun _ _ h => h
    rw [primQ_eq (nest_nd (by cases q <;> first | rfl | cases hq))] at h4 ⊢
    unfold primQ.primQ0 at h4 ⊢
    split at h4
    · refine pw_mono (cmp_bl hq h4) fun d h5 => ⟨h5.2.1, ?_⟩
      obtain ⟨⟨b, rfl⟩, _, h5⟩ := h5
      rw [mkR_cmp hq] at h5 ⊢
      exact one h5
    · exact h4.elim
  · exact one h3
  · exact h3.elim
theorem t_chain {o1 o2 : CmpOp} {p q : Pr} (h1 : OpR X (compareOp o1) (r2 c p)) (h2 : OpR X (compareOp o2) (r2 c q)) (ha : PE X a (rdE c m T W ra)) (hb : PE X b (rdE c m T W rb)) (hd : PE X d (rdE c m T W rc))
    (hm : lastMarks [o1, o2] [b, d] = false := by with_unfolding_all rfl) (np : isDisp p = false := by rfl) (nq : isDisp q = false := by rfl) (cq : isCmp q = true := by rfl) : PT X (.Compare a [o1, o2] [b, d] pos) (rdT c m T W (.chn p q ra rb rc)) :=
  (pt_chain h1 h2 ha hb hd hm).imp' fun _ _ _ h => chain_read np nq (chain_bl cq h)

/-! ### tests -/
theorem t_val (B : CB X c N sc fx) (ha : PE X a (rdE c m T W r)) (he : ∀ whole, isTrue a X.env whole = (do let v ← whole; standAt a.pos; holding [v] (truthy v)) := by intro _; rfl) : PT X a (rdT c m T W r) :=
  (pt_truth ha he).imp' fun σ H Q h => by rw [← B.hK]; exact truth_read h
theorem rdT_mono {σ : L2.St} {H : Hp} {Q Q' : Bool → Hp → Prop} (h : rdT c m T W r σ H Q) (k : ∀ x H, Q x H → Q' x H) : rdT c m T W r σ H Q' := by
  obtain ⟨env, Z, F, S, h⟩ := h
  exact ⟨env, Z, F, S, wpE_mono r env h (fun s e q => tstQ_mono q fun b q H' Z' F' a1 a2 => k _ _ (q H' Z' F' a1 a2)) fun _ _ h => h⟩
/-- a value's truth, then .. -/
theorem tst_fin {σ : L2.St} {H H1 : Hp} {Z Z1 : Zn} {F F1 : Fs} {e1 : Env'} {x : V} {s : Sl} {G : List Addr} {R : Bool → Hp → Prop} (E1 : Ext H Z F H1 Z1 F1) (S1 : StOk c m H1 Z1 σ e1 F1) (t : TOk c H1 Z1 σ x G s) {R0 : Bool → Prop} (q : tstQ s e1 R0) (k : ∀ b, R0 b → R b H1) : ∃ k, TruV c.K x H1 k ∧ R k H1 := by
  obtain ⟨b, h1, h2⟩ := tst_of S1 t q
  exact ⟨b, h1, k _ h2⟩
theorem not_wp {env : Env'} {P : Sl → Env' → Prop} {E : QX} (h : wpE T (.prim .nt [r]) env P E) : wpE T r env (fun s e1 => tstQ s e1 fun b => P (.v (.bl (!b))) e1) E := by
  simp only [wpE, wpEs] at h
  refine wpE_mono r env h (fun s e1 h1 => ?_) fun _ _ h => h
  rw [primQ_eq rfl] at h1
  simp only [primQ.primQ0, rzs] at h1
  unfold tstQ
  split at h1
  · rename_i zs hz
    cases hs : s.rz e1 with
    | none => rw [hs] at hz; cases hz
    | some z =>
      rw [hs] at hz
      cases hz
      have h1 : truQ z.dat fun b => okr .nt [z] (.bl (!b)) = true ∧ P (mkR .nt (.bl (!b))) e1 := h1
      exact truQ_mono h1 fun b q => q.2
  · exact h1.elim
theorem t_not (ha : PT X a (rdT c m T W r)) : PT X (.UnaryOp .Not a pos) (rdT c m T W (.prim .nt [r])) :=
  (pt_not ha).imp' fun σ H Q h => by
    obtain ⟨env, Z, F, S, h⟩ := h
    exact ⟨env, Z, F, S, wpE_mono r env (not_wp h) (fun s e1 h1 => tstQ_mono h1 fun b q => q) fun _ _ h => h⟩
theorem e_not (B : CB X c N sc fx) (ha : PE X a (rdE c m T W r)) : PE X (.UnaryOp .Not a pos) (rdE c m T W (.prim .nt [r])) :=
  (pe_notT ha).imp' fun σ H Q h => by
    rw [← B.hK]
    obtain ⟨env, Z, F, S, h⟩ := h
    refine ⟨env, Z, F, S, wpE_mono r env (not_wp h) (fun s e1 h1 x H1 Z1 F1 G E1 S1 t sp gs => ?_) fun _ _ h => h⟩
    exact tst_fin (R := fun b H1 => Q (.bl (!b)) H1) E1 S1 t h1 fun b q => q (.bl (!b)) H1 Z1 F1 [] E1 S1 ⟨rfl, Rs.bl _ .nil⟩ Sep.nil GSub.nil
/-- and, or as tests: by parts -/
theorem bop1_read {k : Bool} {σ : L2.St} {H : Hp} {Q : Bool → Hp → Prop} (h : rdT c m T W (.bop k [r]) σ H Q) : rdT c m T W r σ H Q := by
  obtain ⟨env, Z, F, S, h⟩ := h
  simp only [wpE, wpB] at h
  exact ⟨env, Z, F, S, h⟩
theorem PostB.from {σ : L2.St} {H H1 : Hp} {Z Z1 : Zn} {F F1 : Fs} {Q : Bool → Hp → Prop} {b : Bool} {e1 : Env'} (E : Ext H Z F H1 Z1 F1) (h : PostB c m σ H Z F Q b e1) : PostB c m σ H1 Z1 F1 Q b e1 := fun H' Z' F' E' S' => h H' Z' F' (E.trans E') S'
theorem PostE.from {σ : L2.St} {H H1 : Hp} {Z Z1 : Zn} {F F1 : Fs} {Q : VK} {s : Sl} {e1 : Env'} (E : Ext H Z F H1 Z1 F1) (h : PostE c m σ H Z F Q s e1) : PostE c m σ H1 Z1 F1 Q s e1 := fun x H' Z' F' G E' S' t sp gs => h x H' Z' F' G (E.trans E') S' t sp (gs.back E)
theorem truQ_val {d : D} {Q : Bool → Prop} (h : truQ d Q) : ∃ b, ∀ R : Bool → Prop, truQ d R ↔ R b := by
  cases d with
  | non => exact ⟨false, fun R => Iff.rfl⟩
  | bl b => exact ⟨b, fun R => Iff.rfl⟩
  | int b => exact ⟨_, fun R => Iff.rfl⟩
  | str b => exact ⟨_, fun R => ⟨fun h => h.2, fun q => ⟨h.1, q⟩⟩⟩
  | lst b => exact ⟨_, fun R => Iff.rfl⟩
  | tup b => exact ⟨_, fun R => Iff.rfl⟩
  | dK b => exact ⟨_, fun R => Iff.rfl⟩
  | dT b => exact h.elim
  | scr b => exact h.elim
theorem tstQ_val {s : Sl} {env : Env'} {Q : Bool → Prop} (h : tstQ s env Q) : ∃ b, ∀ R : Bool → Prop, tstQ s env R ↔ R b := by
  unfold tstQ at h
  split at h
  · rename_i z hz
    obtain ⟨b, hb⟩ := truQ_val h
    refine ⟨b, fun R => ?_⟩
    unfold tstQ
    rw [hz]
    exact hb R
  · exact h.elim
theorem bop2_read {k : Bool} {r2 : RE} {σ : L2.St} {H : Hp} {Q : Bool → Hp → Prop} (h : rdT c m T W (.bop k (r :: r2 :: rs)) σ H Q) : rdT c m T W r σ H fun b H1 => if b = k then rdT c m T W (.bop k (r2 :: rs)) σ H1 Q else Q b H1 := by
  obtain ⟨env, Z, F, S, h⟩ := h
  simp only [wpE] at h
  rw [wpB] at h
  refine ⟨env, Z, F, S, wpE_mono r env h (fun s e1 h1 => ?_) fun _ _ h => h⟩
  obtain ⟨b, hb⟩ := tstQ_val h1
  rw [hb] at h1 ⊢
  intro H' Z' F' E' S'
  by_cases hk : b = k
  · rw [if_pos hk] at h1 ⊢
    refine ⟨e1, Z', F', S', ?_⟩
    simp only [wpE]
    exact wpB_mono k (r2 :: rs) e1 h1 (fun s e q => tstQ_mono q fun b q => q.from E') fun _ _ h => h.from E'
  · rw [if_neg hk] at h1 ⊢
    rw [hb] at h1
    exact h1 H' Z' F' E' S'
theorem w_and1 (ha : PT X a (rdT c m T W r)) : PW X (.BoolOp .And [a] pos) (rdT c m T W (.bop true [r])) := (pw_and1 ha).imp' fun _ _ _ h => bop1_read h
theorem w_or1 (ha : PT X a (rdT c m T W r)) : PW X (.BoolOp .Or [a] pos) (rdT c m T W (.bop false [r])) := (pw_or1 ha).imp' fun _ _ _ h => bop1_read h
theorem w_and {r2 : RE} (ha : PT X a (rdT c m T W r)) (hb : PW X (.BoolOp .And (b :: es) pos) (rdT c m T W (.bop true (r2 :: rs)))) : PW X (.BoolOp .And (a :: b :: es) pos) (rdT c m T W (.bop true (r :: r2 :: rs))) :=
  (pw_and ha hb).imp' fun σ H Q h => rdT_mono (bop2_read h) fun b H1 h => by
    cases b
    · simpa using h
    · simpa using h
theorem w_or {r2 : RE} (ha : PT X a (rdT c m T W r)) (hb : PW X (.BoolOp .Or (b :: es) pos) (rdT c m T W (.bop false (r2 :: rs)))) : PW X (.BoolOp .Or (a :: b :: es) pos) (rdT c m T W (.bop false (r :: r2 :: rs))) :=
  (pw_or ha hb).imp' fun σ H Q h => rdT_mono (bop2_read h) fun b H1 h => by
    cases b
    · simpa using h
    · simpa using h
/-- as values -/
theorem e_bop1 {op : BoolOp} {k : Bool} (ha : PE X a (rdE c m T W r)) : PE X (.BoolOp op [a] pos) (rdE c m T W (.bop k [r])) := (pe_one ha).imp' fun σ H Q ⟨env, Z, F, S, h⟩ => by
  simp only [wpE, wpB] at h
  exact ⟨env, Z, F, S, h⟩
theorem bopE_read {k : Bool} {r2 : RE} {σ : L2.St} {H : Hp} {Q : VK} (h : rdE c m T W (.bop k (r :: r2 :: rs)) σ H Q) : rdE c m T W r σ H fun x H1 => ∃ b, TruV c.K x H1 b ∧ if b = k then rdE c m T W (.bop k (r2 :: rs)) σ H1 Q else Q x H1 := by
  obtain ⟨env, Z, F, S, h⟩ := h
  simp only [wpE] at h
  rw [wpB] at h
  refine ⟨env, Z, F, S, wpE_mono r env h (fun s e1 h1 x H1 Z1 F1 G E1 S1 t sp gs => ?_) fun _ _ h => h⟩
  refine tst_fin (R := fun b H1 => if b = k then rdE c m T W (.bop k (r2 :: rs)) σ H1 Q else Q x H1) E1 S1 t h1 fun b q => ?_
  by_cases hk : b = k
  · rw [if_pos hk] at q ⊢
    refine ⟨e1, Z1, F1, S1, ?_⟩
    simp only [wpE]
    exact wpB_mono k (r2 :: rs) e1 q (fun s e q => q.from E1) fun _ _ h => h.from E1
  · rw [if_neg hk] at q ⊢
    exact q x H1 Z1 F1 G E1 S1 t sp gs
theorem e_and {r2 : RE} (B : CB X c N sc fx) (ha : PE X a (rdE c m T W r)) (hb : PE X (.BoolOp .And (b :: es) pos) (rdE c m T W (.bop true (r2 :: rs)))) : PE X (.BoolOp .And (a :: b :: es) pos) (rdE c m T W (.bop true (r :: r2 :: rs))) :=
  (pe_andT ha hb).imp' fun σ H Q h => by
    rw [← B.hK]
    exact rdE_mono (bopE_read h) fun x H1 ⟨k, h1, h2⟩ => ⟨k, h1, h2⟩
theorem e_or {r2 : RE} (B : CB X c N sc fx) (ha : PE X a (rdE c m T W r)) (hb : PE X (.BoolOp .Or (b :: es) pos) (rdE c m T W (.bop false (r2 :: rs)))) : PE X (.BoolOp .Or (a :: b :: es) pos) (rdE c m T W (.bop false (r :: r2 :: rs))) :=
  (pe_orT ha hb).imp' fun σ H Q h => by
    rw [← B.hK]
    exact rdE_mono (bopE_read h) fun x H1 ⟨k, h1, h2⟩ => ⟨k, h1, by cases k <;> simpa using h2⟩
theorem e_ifx (ha : PT X a (rdT c m T W ra)) (hb : PE X b (rdE c m T W rb)) (hd : PE X d (rdE c m T W rc)) : PE X (.IfExp a b d pos) (rdE c m T W (.ifx ra rb rc)) :=
  (pe_ifExp ha hb hd).imp' fun σ H Q h => by
    obtain ⟨env, Z, F, S, h⟩ := h
    simp only [wpE] at h
    refine ⟨env, Z, F, S, wpE_mono ra env h (fun s e1 h1 => tstQ_mono h1 fun k q H1 Z1 F1 E1 S1 => ?_) fun _ _ h => h⟩
    refine iteM q (fun q => ?_) fun q => ?_
    · exact ⟨e1, Z1, F1, S1, wpE_mono rb e1 q (fun _ _ q => q.from E1) fun _ _ h => h.from E1⟩
    · exact ⟨e1, Z1, F1, S1, wpE_mono rc e1 q (fun _ _ q => q.from E1) fun _ _ h => h.from E1⟩

/-! ### argument lists, calls of builtins, displays -/
theorem a_nil : PA X [] (tAll (([] : List RE).map (rdE c m T W))) := pa_nil
theorem a_cons (ha : PE X e (rdE c m T W r)) (hr : PA X es (tAll (rs.map (rdE c m T W)))) (hs : starEach (e :: es) X.env = (false, eval e X.env) :: starEach es X.env := by rfl) : PA X (e :: es) (tAll ((r :: rs).map (rdE c m T W))) := pa_cons ha hr hs
theorem e_bi {x : Str} {id : String} {p : Pr} {q : Pos} (B : CB X c N sc fx) (hc : CallR X (.builtin id) (rn c p)) (hg : glC sc x = true) (hb : x ∈ (["abs", "all", "any", "bool", "dict", "enumerate", "int", "isinstance", "len", "list", "max", "min", "range", "repr", "sorted", "str", "sum", "tuple", "zip"] : List Str)) (hv : bootBuiltins x = some (.builtin id)) (hn : x ≠ "__name__") (nd : isDisp p = false)
    (ha : PA X (e :: es) (tAll (rs.map (rdE c m T W)))) (he : starEach (e :: es) X.env = (false, eval e X.env) :: starEach es X.env := by rfl) (hpl : (backTo pos (starEach es X.env)).any (·.1) = false := by rfl) : PE X (.Call (.Name x q) (e :: es) [] pos) (rdE c m T W (.prim p rs)) :=
  (pe_callB hc (B.gl hg).1 (B.bl x hb) hv ha hn (B.gl hg).2 he hpl).imp' fun σ H Q h => prim_read (R := fun xs H1 => rn c p xs H1 Q) nd (fun _ _ h => h) h
theorem e_ty {x : Str} {id : String} {p : Pr} {q : Pos} (B : CB X c N sc fx) (hc : CallR X (.type id) (rn c p)) (hg : glC sc x = true) (hb : x ∈ (["abs", "all", "any", "bool", "dict", "enumerate", "int", "isinstance", "len", "list", "max", "min", "range", "repr", "sorted", "str", "sum", "tuple", "zip"] : List Str)) (hv : bootBuiltins x = some (.type id)) (hn : x ≠ "__name__") (nd : isDisp p = false)
    (ha : PA X (e :: es) (tAll (rs.map (rdE c m T W)))) (he : starEach (e :: es) X.env = (false, eval e X.env) :: starEach es X.env := by rfl) (hpl : (backTo pos (starEach es X.env)).any (·.1) = false := by rfl) : PE X (.Call (.Name x q) (e :: es) [] pos) (rdE c m T W (.prim p rs)) :=
  (pe_callTy hc (B.gl hg).1 (B.bl x hb) hv ha hn (B.gl hg).2 he hpl).imp' fun σ H Q h => prim_read (R := fun xs H1 => rn c p xs H1 Q) nd (fun _ _ h => h) h
theorem e_tup {k : Nat} (ha : PA X es (tAll (rs.map (rdE c m T W)))) : PE X (.Tuple es k pos) (rdE c m T W (.prim .tupD rs)) :=
  (pe_tup ha).imp' fun σ H Q h => disp_read (p := .tupD) rfl rfl (fun xs H1 ⟨Z, ds, r, h⟩ => by
    simp only [pw] at h
    exact ⟨by rw [r.length]; exact h.1, fun p hp => h.2.tup r hp⟩) h
theorem e_lst (ha : PA X es (tAll (rs.map (rdE c m T W)))) : PE X (.List es pos) (rdE c m T W (.prim .lstD rs)) :=
  (pe_lst ha).imp' fun σ H Q h => disp_read (p := .lstD) rfl rfl (fun xs H1 ⟨Z, ds, r, h⟩ => by
    simp only [pw] at h
    exact ⟨by rw [r.length]; exact h.1, fun p hp => h.2.lst r hp⟩) h

/-! ### subscripts -/
theorem e_idx (B : CB X c N sc fx) (ha : PE X a (rdE c m T W ra)) (hb : PE X b (rdE c m T W rb)) (hs : PlainIx b := by intro _ _; rfl) : PE X (.Subscript a b pos) (rdE c m T W (.prim .idx [ra, rb])) :=
  (pe_ix (o2_idx B.hu) ha hb hs).imp' fun _ _ _ h => two_read rfl h
theorem e_sl00 (B : CB X c N sc fx) (ha : PE X a (rdE c m T W ra)) : PE X (.Subscript a (.Slice none none none p2) pos) (rdE c m T W (.prim (.slc false false) [ra])) :=
  (pe_slice (sl_any (p := .slc false false) B.hK (fun _ => rfl) fun _ => rfl) ha po_none po_none).imp' fun σ H Q h =>
    prim_read (R := on1 fun x H => rSlc c (.slc false false) x none none H Q) rfl (fun xs H h => by
      match xs with
      | [] => trivial
      | [x] =>
        obtain ⟨Z, d, h1, h2⟩ := rn_one h
        exact ⟨Z, d, h1, h2⟩
      | _ :: _ :: _ => trivial) h
/-- a slice's parts are ints -/
theorem sl_int {H : Hp} {Z : Zn} {y : V} {d : D} {e : D} {p : Pr} {k : Int → Prop} {R : D → Prop} (hy : IV c H Z y e) (h : pw p [d, e] R) (hp : ∀ e R, pw p [d, e] R → ∃ i, e = .int i) : ∃ i, y = .int i ∧ e = .int i := by
  obtain ⟨i, rfl⟩ := hp e R h
  exact ⟨i, hy.int, rfl⟩
theorem e_sl10 (B : CB X c N sc fx) (ha : PE X a (rdE c m T W ra)) (hb : PE X b (rdE c m T W rb)) : PE X (.Subscript a (.Slice (some b) none none p2) pos) (rdE c m T W (.prim (.slc true false) [ra, rb])) :=
  (pe_slice (sl_any (p := .slc true false) B.hK (fun _ => rfl) fun _ => rfl) ha (po_some hb) po_none).imp' fun σ H Q h =>
    prim_read (R := on2 fun x y H => ∃ i, y = .int i ∧ rSlc c (.slc true false) x (some i) none H Q) rfl (fun xs H h => by
      match xs with
      | [] => trivial
      | [x] => trivial
      | [x, y] =>
        obtain ⟨Z, d, e, h1, h2, h3⟩ := rn_two h
        cases e with
        | int i => exact ⟨i, h2.int, Z, d, h1, h3⟩
        | _ => simp only [pw] at h3
      | _ :: _ :: _ :: _ => trivial) h
theorem e_sl01 (B : CB X c N sc fx) (ha : PE X a (rdE c m T W ra)) (hb : PE X b (rdE c m T W rb)) : PE X (.Subscript a (.Slice none (some b) none p2) pos) (rdE c m T W (.prim (.slc false true) [ra, rb])) :=
  (pe_slice (sl_any (p := .slc false true) B.hK (fun _ => rfl) fun _ => rfl) ha po_none (po_some hb)).imp' fun σ H Q h =>
    prim_read (R := on2 fun x y H => ∃ i, y = .int i ∧ rSlc c (.slc false true) x none (some i) H Q) rfl (fun xs H h => by
      match xs with
      | [] => trivial
      | [x] => trivial
      | [x, y] =>
        obtain ⟨Z, d, e, h1, h2, h3⟩ := rn_two h
        cases e with
        | int i => exact ⟨i, h2.int, Z, d, h1, h3⟩
        | _ => simp only [pw] at h3
      | _ :: _ :: _ :: _ => trivial) h
end
end DL
end
section
set_option Elab.async false
set_option linter.all false
set_option maxRecDepth 100000
set_option maxHeartbeats 3900000
/-! DL10: calls of the module's defs. -/
namespace DL
open PySem PySem.Spec L2

theorem FnG.mono {P : Program} {w : World} {K : PySem.W.Frag} {mg : Str → Option Value} {base : Heap} {j k : Nat} {f : Addr} {fd : FuncData} {ps : List Str} {sp : Sp} (F : FnG P w K mg base j f fd ps sp) (h : j ≤ k) :
    FnG P w K mg base k f fd ps sp := ⟨F.len, fun A outer s H args us vs Q E hg hr => F.run A outer s H args us vs Q E hg (hr.mono h)⟩
section
variable {X : Cx} {c : Cn} {m : Am} {T : Txt} {W : WX} {N : List Str} {sc : Scope} {fx : Str → Bool} {e a b d : Expr} {es : List Expr} {r ra rb rc : RE} {rs : List RE} {pos p2 p3 p : Pos} {k : Nat} {f : Addr} {fd : FuncData} {ps : List Str} {sp : Sp} {x : Str}
theorem run_fnG {pn0 : List (Addr × Obj)} {σ : L2.St} {H : Hp} {s : Shared} {Q : VK} {E : XK} {us : List Value} {vs : List V} (F : FnG X.prog X.w X.K X.mg X.base k f fd ps sp) (hg : X.A.guards = some []) (hr : Room k X.A) {args : Args} (hb : BindsTo s fd args (ps.zip us)) (hx : PassesAt (L2.CX X.prog X.w) X σ E)
    (I : Inv X pn0 σ H s) (r : Vals vs us) (h : sp vs H Q E) : wpAny (model X.prog X.w) X.A (call (.ref f) args.pos args.kw) (EP X pn0 σ Q) X.xe s := by
  refine wpAny_call (codeAny_mono (F.run X.A X.stack s H args us vs Q E hg hr I.env0 hb r h) fun r s' hq => ?_)
  cases r with
  | error ee => exact hx pn0 H s ee s' I hq
  | ok fl =>
    cases fl with
    | ret u => exact I.after hq
    | next => exact False.elim hq
    | brk => exact False.elim hq
    | cont => exact False.elim hq
/-- a def that may be called: its number, its name -/
structure Cal (X : Cx) (c : Cn) (T : Txt) (i : Nat) (x : Str) : Prop where
  ex : ∃ k f fd ps, FnG X.prog X.w X.K X.mg X.base k f fd ps (spC c (T.ctr i) (T.len i).length) ∧ Room k X.A ∧ X.mg x = some (.ref f) ∧ PySem.W.keepIn X.K (.ref f) = true ∧ Binds X.K fd ps []
theorem call_read {i : Nat} {σ : L2.St} {H : Hp} {Q : VK} (h : rdE c m T W (.call i rs) σ H Q) : tAll (rs.map (rdE c m T W)) σ H fun vs H1 => spC c (T.ctr i) (T.len i).length vs H1 Q (WE W σ) := by
  obtain ⟨env, Z, F, S, h⟩ := h
  simp only [wpE] at h
  exact args_read rs S (wpEs_mono rs env h (fun ss e1 h1 xs H1 Z1 F1 G E1 S1 t sp gs => call_sp E1 S1 t sp gs h1) fun _ _ h => h)
theorem e_call {i : Nat} (B : CB X c N sc fx) (hf : Cal X c T i x) (tk : Takes X W) (hg : glC sc x = true) (ha : PA X (e :: es) (tAll (rs.map (rdE c m T W)))) (he : starEach (e :: es) X.env = (false, eval e X.env) :: starEach es X.env := by rfl) (hpl : (backTo pos (starEach es X.env)).any (·.1) = false := by rfl) :
    PE X (.Call (.Name x p) (e :: es) [] pos) (rdE c m T W (.call i rs)) := by
  obtain ⟨k, f, fd, ps, F, hr, hm, hk, hb⟩ := hf.ex
  refine ⟨fun pn0 s σ H Q I h => ?_⟩
  refine wpAny_Call_Name_kw (ld_glob I (B.gl hg).1 hm ?_ (B.gl hg).2)
  refine PySem.W.callWith_K (h₀ := X.base) I.ok.mod.kin hk (thn (ha.run pos pn0 s σ H _ I (call_read h)) fun us s1 ⟨vs, H1, I1, r, q⟩ => ⟨I1.kIn, ?_⟩) he hpl
  have hl : us.length = ps.length := by rw [← r.length]; exact F.len _ _ _ _ q
  have b := hb s1 us I1.kIn (by rw [List.append_nil]; exact hl)
  rw [List.append_nil] at b
  exact run_fnG F B.hg hr b (passAt tk σ) I1 r q

/-! ### keywords: what is given is pure -/
def puV (σ : L2.St) : RE → V → Prop
  | .pk i, x => σ[i]? = some (some x)
  | .lit (.int i), x => x = .int i
  | .lit (.str i), x => x = .str i
  | .lit (.bl i), x => x = .bl i
  | _, _ => False
def puC : RE → Bool
  | .pk i => true
  | .lit (.int i) => true
  | .lit (.str i) => true
  | .lit (.bl i) => true
  | _ => false
inductive PuV (σ : L2.St) : List RE → List V → Prop
  | nil : PuV σ [] []
  | cons {r : RE} {x : V} {rs : List RE} {xs : List V} : puV σ r x → PuV σ rs xs → PuV σ (r :: rs) (x :: xs)
theorem pu_one {σ : L2.St} {H : Hp} {Q : VK} (hp : puC r = true) (h : rdE c m T W r σ H Q) : ∃ x, puV σ r x ∧ Q x H := by
  obtain ⟨env, Z, F, S, h⟩ := h
  unfold puC at hp
  split at hp
  · simp only [wpE] at h
    obtain ⟨x, hx⟩ := okPk_val S h.1
    exact ⟨x, hx, h.2 x H Z F [] (Ext.refl ..) S ⟨rfl, hx⟩ Sep.nil GSub.nil⟩
  · simp only [wpE] at h; exact ⟨_, rfl, lit_fin S h (Rs.int _ .nil)⟩
  · simp only [wpE] at h; exact ⟨_, rfl, lit_fin S h (Rs.str _ .nil)⟩
  · simp only [wpE] at h; exact ⟨_, rfl, lit_fin S h (Rs.bl _ .nil)⟩
  · cases hp
theorem pu_all {σ : L2.St} : ∀ {rs : List RE} {H : Hp} {R : List V → Hp → Prop}, rs.all puC = true → tAll (rs.map (rdE c m T W)) σ H R → ∃ xs, PuV σ rs xs ∧ R xs H
  | [], H, R, _, h => ⟨[], .nil, h⟩
  | r :: rs, H, R, hp, h => by
    rw [List.all_cons, Bool.and_eq_true] at hp
    obtain ⟨x, h1, h2⟩ := pu_one hp.1 h
    obtain ⟨xs, h3, h4⟩ := pu_all hp.2 h2
    exact ⟨x :: xs, .cons h1 h3, h4⟩
theorem PuV.get {σ : L2.St} {rs : List RE} {xs : List V} (h : PuV σ rs xs) : ∀ {j : Nat}, j < rs.length → puV σ (rs.getD j (.lit .non)) (xs.getD j .non) := by
  induction h with
  | nil => intro j h; cases h
  | cons h _ ih =>
    intro j hj
    cases j with
    | zero => exact h
    | succ j => exact ih (Nat.lt_of_succ_lt_succ hj)
theorem PuV.len {σ : L2.St} {rs : List RE} {xs : List V} (h : PuV σ rs xs) : rs.length = xs.length := by
  induction h with
  | nil => rfl
  | cons _ _ ih => simp [ih]
theorem PuV.perm {σ : L2.St} {rs : List RE} {xs : List V} (h : PuV σ rs xs) : ∀ {fwd : List Nat}, (∀ j ∈ fwd, j < rs.length) → PuV σ (fwd.map (rs.getD · (.lit .non))) (fwd.map (xs.getD · .non))
  | [], _ => .nil
  | j :: fwd, hf => .cons (h.get (hf j List.mem_cons_self)) (h.perm fun i hi => hf i (List.mem_cons_of_mem _ hi))
/-- a pure value, given -/
def tPu (r : RE) : TE := fun σ H Q => ∃ x, puV σ r x ∧ Q x H
theorem u_pk {i : Nat} (B : CB X c N sc fx) (hv : visC sc N i x = true) : PE X (.Name x pos) (tPu (.pk i)) := by
  obtain ⟨v1, v2, v3, v4⟩ := B.vis hv
  exact (pe_var v1 v2 v3 v4)
theorem u_int {i : Int} {j : Nat} : PE X (.Constant (.int i) j pos) (tPu (.lit (.int i))) := pe_int.imp' fun _ _ _ ⟨x, e, q⟩ => by cases e; exact q
theorem u_bl {i : Bool} {j : Nat} : PE X (.Constant (.bool i) j pos) (tPu (.lit (.bl i))) := pe_bl.imp' fun _ _ _ ⟨x, e, q⟩ => by cases e; exact q
theorem u_str {i : Str} {j : Nat} : PE X (.Constant (.str i) j pos) (tPu (.lit (.str i))) := pe_str.imp' fun _ _ _ ⟨x, e, q⟩ => by cases e; exact q
def tPus (ws : List RE) : TA := fun σ H Q => ∃ zs, PuV σ ws zs ∧ Q zs H
theorem k_nil : PK X [] (tPus []) := ⟨fun pos pn0 s σ H Q I ⟨zs, h, q⟩ => by cases h; exact pk_nil.run pos pn0 s σ H Q I q⟩
theorem k_cons {w : RE} {ws : List RE} {kws : List Keyword} {nm : Option Str} {kpos : Pos} (ha : PE X e (tPu w)) (hr : PK X kws (tPus ws)) : PK X (⟨nm, e, kpos⟩ :: kws) (tPus (w :: ws)) :=
  ⟨fun pos pn0 s σ H Q I ⟨zs, h, q⟩ => by
    cases h with
    | cons h1 h2 => exact (pk_cons ha hr).run pos pn0 s σ H Q I ⟨_, h1, _, h2, q⟩⟩
/-- how keywords bind, the parameter j by the keyword inv j -/
def KBn (K : PySem.W.Frag) (fd : FuncData) (ps ks : List Str) (inv : List Nat) : Prop := ∀ (s : Shared) (ws : List Value), K.In s.heap → ws.length = ks.length → BindsTo s fd ⟨[], ks.zip ws⟩ (ps.zip (inv.map (ws.getD · .none)))
structure CalK (X : Cx) (c : Cn) (T : Txt) (i : Nat) (x : Str) (ks : List Str) (inv : List Nat) : Prop where
  ex : ∃ k f fd ps, FnG X.prog X.w X.K X.mg X.base k f fd ps (spC c (T.ctr i) (T.len i).length) ∧ Room k X.A ∧ X.mg x = some (.ref f) ∧ PySem.W.keepIn X.K (.ref f) = true ∧ KBn X.K fd ps ks inv
theorem Vals.getD {vs : List V} {us : List Value} (h : Vals vs us) : ∀ {j : Nat}, j < vs.length → RelV (vs.getD j .non) (us.getD j .none) := by
  induction h with
  | nil => intro j h; cases h
  | cons r _ ih =>
    intro j hj
    cases j with
    | zero => exact r
    | succ j => exact ih (Nat.lt_of_succ_lt_succ hj)
theorem Vals.perm {vs : List V} {us : List Value} (h : Vals vs us) : ∀ {inv : List Nat}, (∀ j ∈ inv, j < vs.length) → Vals (inv.map (vs.getD · .non)) (inv.map (us.getD · .none))
  | [], _ => .nil
  | j :: inv, hf => .cons (Vals.getD h (hf j List.mem_cons_self)) (Vals.perm h fun i hi => hf i (List.mem_cons_of_mem _ hi))
theorem perm_id {xs : List V} {fwd inv : List Nat} (h : inv.map (fwd.getD · 0) = List.range xs.length) (hi : ∀ j ∈ inv, j < fwd.length) : inv.map ((fwd.map (xs.getD · .non)).getD · .non) = xs := by
  have e : inv.map ((fwd.map (xs.getD · .non)).getD · .non) = (inv.map (fwd.getD · 0)).map (xs.getD · .non) := by
    rw [List.map_map]
    refine List.map_congr_left fun j hj => ?_
    have := hi j hj
    simp [this]
  rw [e, h]
  refine List.ext_getElem (by simp) fun i h1 _ => ?_
  simp at h1
  simp [h1]
theorem e_callK {i : Nat} {ks : List Str} {inv fwd : List Nat} {ws : List RE} {kws : List Keyword} (B : CB X c N sc fx) (hf : CalK X c T i x ks inv) (tk : Takes X W) (hg : glC sc x = true) (hp : rs.all puC = true) (hkw : PK X kws (tPus ws)) (hws : ws = fwd.map (rs.getD · (.lit .non)))
    (h1 : ∀ j ∈ fwd, j < rs.length) (h2 : ∀ j ∈ inv, j < fwd.length) (h3 : inv.map (fwd.getD · 0) = List.range rs.length) (hkl : ks.length = fwd.length)
    (hall : (backToKw pos (keywordEach kws X.env)).all (·.1.isSome) = true := by rfl) (hks : (backToKw pos (keywordEach kws X.env)).filterMap (·.1) = ks := by rfl)
    (hpl : ((backTo pos (starEach [] X.env)).any (·.1) || (backToKw pos (keywordEach kws X.env)).any (·.1.isNone)) = false := by exact rfl) :
    PE X (.Call (.Name x p) [] kws pos) (rdE c m T W (.call i rs)) := by
  obtain ⟨k, f, fd, ps, F, hr, hm, hk, hb⟩ := hf.ex
  refine ⟨fun pn0 s σ H Q I h => ?_⟩
  refine wpAny_Call_Name_kw (ld_glob I (B.gl hg).1 hm ?_ (B.gl hg).2)
  refine PySem.W.callWith_KW0 (h₀ := X.base) I.ok.mod.kin hk hall ?_ hpl
  obtain ⟨xs, hx, q⟩ := pu_all hp (call_read h)
  have hz := hx.perm (fwd := fwd) h1
  rw [← hws] at hz
  refine thn (hkw.run pos pn0 s σ H (fun zs H1 => zs = fwd.map (xs.getD · .non) ∧ H1 = H) I ⟨_, hz, rfl, rfl⟩) fun us s1 ⟨vs, H1, I1, r, e1, e2⟩ => ⟨I1.kIn, ?_⟩
  subst e1 e2
  rw [hks]
  have hl := r.length
  have hlx := hx.len
  have b := hb s1 us I1.kIn (by rw [← hl, List.length_map]; exact hkl.symm)
  have r2 := Vals.perm r (inv := inv) (by simpa using h2)
  rw [perm_id (by rw [h3, hlx]) h2] at r2
  exact run_fnG F B.hg hr b (passAt tk σ) I1 r2 q
end
end DL
end
section
set_option Elab.async false
set_option linter.all false
set_option maxRecDepth 100000
set_option maxHeartbeats 3900000
/-! DL11: targets, sources. -/
namespace DL
open PySem PySem.Spec L2

/-- what stays at the locked slots -/
def Pin (env : Env') (σ σ' : L2.St) : Prop := ∀ (i : Nat) (b : Bool) (n : Nat) (d : D), env[i]? = some (.w b n d) → σ'[i]? = σ[i]?
theorem Pin.refl (env : Env') (σ : L2.St) : Pin env σ σ := fun _ _ _ _ _ => rfl
theorem Pin.trans {env e1 : Env'} {σ σ1 σ2 : L2.St} (h : Pin env σ σ1) (l : Lk env e1) (k : Pin e1 σ1 σ2) : Pin env σ σ2 := fun i b n d e => (k i b n d (l i b n d e)).trans (h i b n d e)

/-! ### targets -/
mutual
def tgN : Tg → List Nat
  | .nm i => [i]
  | .tp ts => tgNs ts
def tgNs : List Tg → List Nat
  | [] => []
  | t :: ts => tgN t ++ tgNs ts
end
section
variable {X : Cx} {c : Cn} {m : Am} {T : Txt} {W : WX} {N : List Str} {sc : Scope} {fx : Str → Bool} {e a b d : Expr} {es : List Expr} {r ra rb rc : RE} {rs : List RE} {pos p2 p3 p : Pos} {x : Str}
/-- what a target's store is to reach -/
def EndG (c : Cn) (m : Am) (is : List Nat) (σ : L2.St) (H : Hp) (Z : Zn) (F : Fs) (env e1 : Env') (Q : L2.St → Hp → Prop) : Prop :=
  ∀ σ' F', Ext H Z F H Z F' → StOk c m H Z σ' e1 F' → Pin env σ σ' → (∀ i, i ∉ is → σ'[i]? = σ[i]?) → Q σ' H
def rdG (c : Cn) (m : Am) (t : Tg) : TG := fun x σ H Q => ∃ env Z F d, StOk c m H Z σ env F ∧ Rep c.K H Z 0 x d [] ∧ ∃ e1, bindT t d env = some e1 ∧ EndG c m (tgN t) σ H Z F env e1 Q
def rdGs (c : Cn) (m : Am) (ts : List Tg) : TGs := fun xs σ H Q => ∃ env Z F ds, StOk c m H Z σ env F ∧ Rs c.K H Z 0 xs ds [] ∧ ∃ e1, bindTs ts ds env = some e1 ∧ EndG c m (tgNs ts) σ H Z F env e1 Q
theorem setS_get {env e1 : Env'} {i : Nat} {s : Sl} (h : setS env i s = some e1) : i < env.length ∧ e1 = env.set i s ∧ ∃ t, env[i]? = some t ∧ t.free = true := by
  unfold setS at h; split at h
  · rename_i t ht
    split at h
    · rename_i hf; cases h; exact ⟨(List.getElem?_eq_some_iff.mp ht).1, rfl, t, ht, hf⟩
    · cases h
  · cases h
theorem pin_set {env : Env'} {σ : L2.St} {i : Nat} {v : Option V} {t : Sl} (h : env[i]? = some t) (f : t.free = true) : Pin env σ (σ.set i v) := fun j b n d e => by
  by_cases hj : j = i
  · subst hj; rw [h] at e; cases e; cases f
  · exact List.getElem?_set_ne (Ne.symm hj)
theorem set_v {σ : L2.St} {H : Hp} {Z : Zn} {F : Fs} {env : Env'} {i : Nat} {x : V} {d : D} (S : StOk c m H Z σ env F) (hi : i < env.length) (r : Rep c.K H Z 0 x d []) : StOk c m H Z (σ.set i (some x)) (env.set i (.v d)) (fset F i []) :=
  S.put hi Sep.nil ⟨rfl, x, List.getElem?_set_self (by rw [← S.len]; exact hi), r⟩
def locC (sc : Scope) (fx : Str → Bool) (N : List Str) (i : Nat) (x : Str) : Bool := decide (N[i]? = some x) && (decide (sc.names.lookup x = some .local) || (decide (sc.names.lookup x = some .cell) && fx x))
theorem CB.loc (B : CB X c N sc fx) {i : Nat} {x : Str} (h : locC sc fx N i x = true) : X.N[i]? = some x ∧ Loc X.env.scope x ∧ (X.fn x = true ∨ X.env.scope.names.lookup x = some .local) := by
  unfold locC at h
  simp only [Bool.and_eq_true, Bool.or_eq_true, decide_eq_true_eq] at h
  refine ⟨by rw [B.hN]; exact h.1, ?_⟩
  rw [B.hs]
  rcases h.2 with h | h
  · exact ⟨.inl h, .inr h⟩
  · exact ⟨.inr h.1, .inl (B.hf _ h.2)⟩
theorem CB.ND (B : CB X c N sc fx) : X.N.Nodup := by rw [B.hN]; exact B.nd
theorem g_name {i : Nat} (B : CB X c N sc fx) (h : locC sc fx N i x = true) : PG X (.Name x pos) (rdG c m (.nm i)) := by
  obtain ⟨h1, h2, h3⟩ := B.loc h
  refine ⟨fun pn0 s σ H v u Q I r hw => (pg_name B.ND h1 h2 h3).run pn0 s σ H v u Q I r ?_⟩
  obtain ⟨env, Z, F, d, S, rv, e1, hb, q⟩ := hw
  simp only [bindT] at hb
  obtain ⟨k1, k2, t, k3, k4⟩ := setS_get hb
  subst k2
  exact q _ _ (Ext.put (Ext.refl ..) GSub.nil) (set_v S k1 rv) (pin_set k3 k4) fun j hj => List.getElem?_set_ne fun e => hj (by rw [e]; exact List.mem_cons_self)
theorem gs_nil : PGs X [] (rdGs c m []) := by
  refine ⟨fun pn0 s σ H vs us Q I r hw => pgs_nil.run pn0 s σ H vs us Q I r ?_⟩
  obtain ⟨env, Z, F, ds, S, rv, e1, hb, q⟩ := hw
  cases ds with
  | nil =>
    obtain ⟨e, _⟩ := rv.nil_inv
    simp only [bindTs] at hb; cases hb
    exact ⟨e, q σ F (Ext.refl ..) S (Pin.refl env σ) fun _ _ => rfl⟩
  | cons d ds => simp [bindTs] at hb
theorem gs_cons {t : Tg} {ts : List Tg} (h1 : PG X e (rdG c m t)) (h2 : PGs X es (rdGs c m ts)) (hs : (assignEach (e :: es) X.env).map (·.2) = assign e X.env :: (assignEach es X.env).map (·.2) := by rfl) : PGs X (e :: es) (rdGs c m (t :: ts)) := by
  refine ⟨fun pn0 s σ H vs us Q I r hw => (pgs_cons h1 h2 hs).run pn0 s σ H vs us Q I r ?_⟩
  obtain ⟨env, Z, F, ds, S, rv, e2, hb, q⟩ := hw
  cases ds with
  | nil => simp [bindTs] at hb
  | cons d ds =>
    cases vs with
    | nil => have := rv.length; cases this
    | cons v vs =>
      simp only [bindTs] at hb
      split at hb
      · rename_i e1 h1'
        obtain ⟨r1, r2⟩ := rv.cons0_inv
        refine ⟨v, vs, rfl, env, Z, F, d, S, r1, e1, h1', fun σ1 F1 E1 S1 P1 o1 => ?_⟩
        refine ⟨e1, Z, F1, ds, S1, r2, e2, hb, fun σ2 F2 E2 S2 P2 o2 => ?_⟩
        exact q σ2 F2 (E1.trans E2) S2 (P1.trans (bindT_lk _ _ _ h1') P2) fun i hi => by
          simp only [tgNs, List.mem_append, not_or] at hi
          exact (o2 i hi.2).trans (o1 i hi.1)
      · cases hb
theorem bindTs_len : ∀ {ts : List Tg} {ds : List D} {env e1 : Env'}, bindTs ts ds env = some e1 → ts.length = ds.length
  | [], [], _, _, _ => rfl
  | t :: ts, d :: ds, env, e1, h => by
    simp only [bindTs] at h; split at h
    · simp [bindTs_len h]
    · cases h
  | [], _ :: _, _, _, h => by simp [bindTs] at h
  | _ :: _, [], _, _, h => by simp [bindTs] at h
theorem g_tup {k : Nat} {ts : List Tg} (hc : X.calm = true) (h : PGs X es (rdGs c m ts)) (hn : (assignEach es X.env).length = ts.length := by rfl) (hst : (assignEach es X.env).findIdx? (·.1) = none := by rfl) : PG X (.Tuple es k pos) (rdG c m (.tp ts)) := by
  refine ⟨fun pn0 s σ H v u Q I r hw => ?_⟩
  obtain ⟨env, Z, F, d, S, rv, e1, hb, q⟩ := hw
  simp only [bindT] at hb
  split at hb
  · rename_i ds
    obtain ⟨a, xs, rfl, h1, h2⟩ := rv.tup_inv
    exact (pg_tup hc h hn hst).run pn0 s σ H _ u Q I r ⟨a, xs, rfl, SqT.of h1, by rw [h2.length, bindTs_len hb], env, Z, F, ds, S, h2, e1, hb, q⟩
  · rename_i ds
    obtain ⟨a, xs, rfl, h1, _, h2⟩ := rv.lst0_inv
    exact (pg_lst hc h hn hst).run pn0 s σ H _ u Q I r ⟨a, xs, rfl, .inl (.inl h1), by rw [h2.length, bindTs_len hb], env, Z, F, ds, S, h2, e1, hb, q⟩
  · cases hb

/-! ### sources -/
def Walks (c : Cn) (J : It) (xs : List V) (gs ds : List D) : Prop := ∀ H Z, IVs c H Z xs gs → (∀ i, i < ds.length → J.go i H) ∧ (∀ i, i = ds.length → J.stop i H) ∧
  ∀ i x H', J.yld i H x H' → i < ds.length → (∀ a o, H a = some o → H' a = some o) ∧ ∃ d, ds[i]? = some d ∧ Rep c.K H' Z 0 x d []
def EndI (c : Cn) (m : Am) (σ : L2.St) (H : Hp) (Z : Zn) (F : Fs) (e1 : Env') (ss : List Sl) (gs : List D) (R : It → Hp → Prop) (ds : List D) : Prop :=
  ∀ xs H1 Z1 F1 G J, Ext H Z F H1 Z1 F1 → StOk c m H1 Z1 σ e1 F1 → Tmps c H1 Z1 σ xs ss G → Sep Z1 F1 G → GSub H F G → Walks c J xs gs ds → R J H1
def rdI (c : Cn) (m : Am) (T : Txt) (W : WX) (k : SrcK) (rs : List RE) : TI := fun σ H R => ∃ env Z F, StOk c m H Z σ env F ∧
  wpEs T rs env (fun ss e1 => ∃ zs, rzs e1 ss = some zs ∧ zs.all Rz.flat = true ∧ srcD k (zs.map Rz.dat) (EndI c m σ H Z F e1 ss (zs.map Rz.dat) R)) (PostX c m σ H Z F W)
def sI (c : Cn) (k : SrcK) (R : It → Hp → Prop) : List V → Hp → Prop := fun xs H => ∃ Z gs, IVs c H Z xs gs ∧ srcD k gs fun ds => ∀ J, Walks c J xs gs ds → R J H
theorem src_read {k : SrcK} {σ : L2.St} {H : Hp} {R : It → Hp → Prop} (h : rdI c m T W k rs σ H R) : tAll (rs.map (rdE c m T W)) σ H (sI c k R) := by
  obtain ⟨env, Z, F, S, h⟩ := h
  refine args_read rs S (wpEs_mono rs env h (fun ss e1 ⟨zs, hz, fl, h1⟩ xs H1 Z1 F1 G E1 S1 t sp gs => ?_) fun _ _ h => h)
  exact ⟨zadd Z1 G, zs.map Rz.dat, (Vws.of S1 t (fun _ h => h) hz).iv fl, srcD_mono h1 fun ds q J w => q xs H1 Z1 F1 G J E1 S1 t sp gs w⟩
theorem lt_get {α : Type} {l : List α} {i : Nat} (h : i < l.length) : ∃ x, l[i]? = some x := ⟨l[i], by simp [h]⟩
theorem walk_lst {a : Addr} {ds : List D} : Walks c (Itl c.K a) [.ref a] [.lst ds] ds := by
  intro H Z h
  obtain ⟨d, e, h⟩ := ivs_one h
  cases e
  obtain ⟨a', vs, e, h1, r⟩ := h
  cases e
  have hl := r.length
  refine ⟨fun i hi => ?_, fun i hi => ⟨vs, .inl (.inl h1), by omega⟩, fun i x H' hy hi => ?_⟩
  · obtain ⟨v, hv⟩ := lt_get (l := vs) (i := i) (by omega)
    exact ⟨vs, v, .inl (.inl h1), hv⟩
  · obtain ⟨rfl, hx⟩ := hy
    obtain ⟨d, hd, rd⟩ := r.atV (hx vs (.inl (.inl h1)))
    exact ⟨fun _ _ e => e, d, hd, rd⟩
theorem walk_tup {a : Addr} {ds : List D} : Walks c (Itt c.K a) [.ref a] [.tup ds] ds := by
  intro H Z h
  obtain ⟨d, e, h⟩ := ivs_one h
  cases e
  obtain ⟨a', vs, e, h1, r⟩ := h.tup
  cases e
  have hl := r.length
  refine ⟨fun i hi => ?_, fun i hi => ⟨vs, SqT.of h1, by omega⟩, fun i x H' hy hi => ?_⟩
  · obtain ⟨v, hv⟩ := lt_get (l := vs) (i := i) (by omega)
    exact ⟨vs, v, SqT.of h1, hv⟩
  · obtain ⟨rfl, hx⟩ := hy
    obtain ⟨d, hd, rd⟩ := r.atV (hx vs (SqT.of h1))
    exact ⟨fun _ _ e => e, d, hd, rd⟩
theorem walk_rng {lo hi : Int} {xs : List V} {gs : List D} : Walks c (Itr lo (hi - lo).toNat) xs gs (rngD lo hi) := by
  intro H Z _
  have hl : (rngD lo hi).length = (hi - lo).toNat := by simp [rngD]
  rw [hl]
  refine ⟨fun i hi => hi, fun i hi => by rw [hi]; exact Nat.le_refl _, fun i x H' hy hi => ?_⟩
  obtain ⟨rfl, rfl⟩ := hy
  exact ⟨fun _ _ e => e, .int (lo + i), by simp [rngD, hi], Rs.int _ .nil⟩
theorem i_seq {tg : Expr} (B : CB X c N sc fx) (ha : PE X e (rdE c m T W r)) : PI X tg e (rdI c m T W .seq [r]) := by
  refine ⟨fun pn0 s σ H R I h => ?_⟩
  have h1 : rdE c m T W r σ H fun x H1 => sI c .seq R [x] H1 := src_read h
  refine thn (ha.run pn0 s σ H _ I h1) fun v s1 ⟨x, H1, I1, r1, q1⟩ => ?_
  obtain ⟨Z, gs, h2, h3⟩ := q1
  obtain ⟨d, rfl, h4⟩ := ivs_one h2
  simp only [srcD] at h3
  have walkL : ∀ ds, d = .lst ds → wpAny (model X.prog X.w) X.A (pyIter v) (PIE X pn0 σ tg R) X.xe s1 := by
    intro ds e
    subst e
    obtain ⟨a, vs, rfl, h5, _⟩ := h4
    cases r1
    have hq : SqL X.K H1 a vs := .inl (.inl h5)
    obtain ⟨us, ru, pl, _⟩ := I1.list hq
    refine wpAny_pyIter_list (PlainL.isList pl) ?_
    refine ⟨s1.heap.objs.size, [s1.heap.objs.size], _, _, H1, rfl, I1.kept (t' := s1.toks) fun b o e => Heap.get?_push_of_some _ e, turn_list a _, ⟨_, Heap.get?_push_size _ rfl, rfl, rfl⟩, fun b hb => ?_, h3 _ (by rw [← B.hK]; exact walk_lst)⟩
    obtain rfl := List.mem_singleton.mp hb
    exact Inv.fpOk I1 (Nat.le_refl _) (HOk.fresh I1.hok (Nat.le_refl _))
  have walkT : ∀ ds, d = .tup ds → wpAny (model X.prog X.w) X.A (pyIter v) (PIE X pn0 σ tg R) X.xe s1 := by
    intro ds e
    subst e
    obtain ⟨a, vs, rfl, h5, _⟩ := h4.tup
    cases r1
    have hq : SqT X.K H1 a vs := SqT.of h5
    obtain ⟨us, ru, pt, _⟩ := I1.tuple hq
    refine wpAny_pyIter_tuple (items := us.toArray) pt ?_
    refine ⟨s1.heap.objs.size, [s1.heap.objs.size], _, _, H1, rfl, I1.kept (t' := s1.toks) fun b o e => Heap.get?_push_of_some _ e, turn_tuple a _, ⟨_, Heap.get?_push_size _ rfl, rfl, rfl⟩, fun b hb => ?_, h3 _ (by rw [← B.hK]; exact walk_tup)⟩
    obtain rfl := List.mem_singleton.mp hb
    exact Inv.fpOk I1 (Nat.le_refl _) (HOk.fresh I1.hok (Nat.le_refl _))
  cases d with
  | lst ds => exact walkL ds rfl
  | tup ds => exact walkT ds rfl
  | _ => simp only [seqOf] at h3
theorem tAll_mono {σ : L2.St} {Q Q' : List V → Hp → Prop} : ∀ {rs : List RE} {H : Hp} {Q Q' : List V → Hp → Prop}, tAll (rs.map (rdE c m T W)) σ H Q → (∀ xs H, Q xs H → Q' xs H) → tAll (rs.map (rdE c m T W)) σ H Q'
  | [], H, Q, Q', h, k => k _ _ h
  | r :: rs, H, Q, Q', h, k => rdE_mono h fun x H1 h => tAll_mono (Q := fun xs H => Q (x :: xs) H) (Q' := fun xs H => Q' (x :: xs) H) (σ := σ) h fun xs H q => k _ _ q
theorem i_rng1 {tg : Expr} (B : CB X c N sc fx) (hg : glC sc "range" = true) (ha : PE X a (rdE c m T W ra)) (hs : starEach [a] X.env = [(false, eval a X.env)] := by rfl) : PI X tg (.Call (.Name "range" p) [a] [] pos) (rdI c m T W .rng [ra]) := by
  refine ⟨fun pn0 s σ H R I h => (pi_range1 (B.gl hg).1 (B.bl _ (by simp)) (a_cons (rs := []) ha a_nil hs) hs).run pn0 s σ H R I ?_⟩
  have h1 : rdE c m T W ra σ H fun x H1 => sI c .rng R [x] H1 := src_read h
  refine rdE_mono h1 fun x H1 ⟨Z, gs, h2, h3⟩ => ?_
  obtain ⟨d, rfl, h4⟩ := ivs_one h2
  cases d with
  | int j => exact ⟨j, by rw [h4.int], h3.1, h3.2.1, by have := h3.2.2 _ (walk_rng (lo := 0)); simpa using this⟩
  | _ => simp only [srcD] at h3
theorem i_rng2 {tg : Expr} (B : CB X c N sc fx) (hg : glC sc "range" = true) (ha : PE X a (rdE c m T W ra)) (hb : PE X b (rdE c m T W rb)) (hs : starEach [a, b] X.env = [(false, eval a X.env), (false, eval b X.env)] := by rfl) (hs2 : starEach [b] X.env = [(false, eval b X.env)] := by rfl) : PI X tg (.Call (.Name "range" p) [a, b] [] pos) (rdI c m T W .rng [ra, rb]) := by
  refine ⟨fun pn0 s σ H R I h => (pi_range2 (B.gl hg).1 (B.bl _ (by simp)) (a_cons (rs := [rb]) ha (a_cons (rs := []) hb a_nil hs2) (by rw [hs, hs2])) hs hs2).run pn0 s σ H R I ?_⟩
  have h1 : rdE c m T W ra σ H fun x H1 => rdE c m T W rb σ H1 fun y H2 => sI c .rng R [x, y] H2 := src_read h
  refine rdE_mono h1 fun x H1 h2 => rdE_mono h2 fun y H2 ⟨Z, gs, h2, h3⟩ => ?_
  obtain ⟨d, e, rfl, h4, h5⟩ := ivs_two h2
  cases d with
  | int i =>
    cases e with
    | int j => exact ⟨i, j, by rw [h4.int, h5.int], h3.1, h3.2 _ walk_rng⟩
    | _ => simp only [srcD] at h3
  | _ => simp only [srcD] at h3
end
end DL
end
section
set_option Elab.async false
set_option linter.all false
set_option maxRecDepth 100000
set_option maxHeartbeats 3900000
/-! DL12: locks, comprehensions. -/
namespace DL
open PySem PySem.Spec L2

def clr (env : Env') (own : List Nat) : Env' := own.foldl (fun e i => e.set i .no) env
theorem clr_len {own : List Nat} : ∀ {env : Env'}, (clr env own).length = env.length := by
  induction own with
  | nil => intro env; rfl
  | cons i own ih => intro env; show (clr (env.set i .no) own).length = _; rw [ih, List.length_set]
theorem clr_get {own : List Nat} {i : Nat} : ∀ {env : Env'}, (clr env own)[i]? = if i ∈ own then env[i]?.map (fun _ => Sl.no) else env[i]? := by
  induction own with
  | nil => intro env; simp [clr]
  | cons j own ih =>
    intro env
    show (clr (env.set j .no) own)[i]? = _
    rw [ih]
    by_cases h1 : i = j
    · subst h1
      by_cases hl : i < env.length
      · simp [hl]
      · simp [hl, List.getElem?_eq_none (Nat.le_of_not_lt hl)]
    · rw [List.getElem?_set_ne (Ne.symm h1)]
      simp [h1]
theorem clr_out {own : List Nat} {i : Nat} {env : Env'} (h : i ∉ own) : (clr env own)[i]? = env[i]? := by rw [clr_get, if_neg h]
theorem clr_in {own : List Nat} {i : Nat} {env : Env'} {s : Sl} (h : i ∈ own) (e : (clr env own)[i]? = some s) : s = .no := by
  rw [clr_get, if_pos h] at e
  cases q : env[i]? with
  | none => rw [q] at e; exact nomatch e
  | some t => rw [q] at e; cases e; rfl
theorem restore_len {own : List Nat} {e1 : Env'} : ∀ {e : Env'}, (restore e1 e own).length = e.length := by
  induction own with
  | nil => intro e; rfl
  | cons i own ih =>
    intro e
    show (restore e1 (match e1[i]? with | some s => e.set i s | none => e) own).length = _
    rw [ih]
    cases e1[i]? <;> simp
theorem restore_get {own : List Nat} {e1 : Env'} {i : Nat} : ∀ {e : Env'}, e.length = e1.length → (restore e1 e own)[i]? = if i ∈ own then e1[i]? else e[i]? := by
  induction own with
  | nil => intro e _; simp [restore]
  | cons j own ih =>
    intro e hl
    show (restore e1 (match e1[j]? with | some s => e.set j s | none => e) own)[i]? = _
    rw [ih (by cases e1[j]? <;> simp [hl])]
    by_cases h1 : i = j
    · subst h1
      cases q : e1[i]? with
      | none =>
        have : e[i]? = none := by rw [List.getElem?_eq_none_iff] at q ⊢; omega
        simp [this]
      | some s =>
        have : i < e.length := by have := (List.getElem?_eq_some_iff.mp q).1; omega
        simp [this]
    · cases q : e1[j]? with
      | none => simp [h1]
      | some s => simp [h1, List.getElem?_set_ne (Ne.symm h1)]
section
variable {c : Cn} {m : Am} {H H' : Hp} {Z Z' : Zn} {F F' : Fs} {σ σ' : L2.St} {env env' e1 e2 : Env'} {x : V} {xs : List V} {ss : List Sl} {zs : List Rz} {G : List Addr}
theorem fset_id {i : Nat} : fset F i (F i) = F := by funext j; unfold fset; split <;> simp_all
theorem StOk.reslot (S : StOk c m H Z σ env F) {i : Nat} {s : Sl} (hi : i < env.length) (h : SlOk c m H Z σ i (F i) s) : StOk c m H Z σ (env.set i s) F := by
  have := S.alt hi (fun _ h => h) h
  rw [fset_id] at this; exact this
theorem lockS_ok (S : StOk c m H Z σ env F) (s : Sl) : StOk c m H Z σ (lockS env s) F := by
  unfold lockS; split
  · rename_i i
    split
    · rename_i n d e
      obtain ⟨x, h1, r⟩ := S.sl i _ e
      exact S.reslot (List.getElem?_eq_some_iff.mp e).1 ⟨x, h1, fun h => (by cases h), r⟩
    · rename_i n d e
      obtain ⟨x, h1, h2, r⟩ := S.sl i _ e
      exact S.reslot (List.getElem?_eq_some_iff.mp e).1 ⟨x, h1, fun _ => h2, r⟩
    · exact S
  · exact S
theorem locks_ok (S : StOk c m H Z σ env F) : ∀ (ss : List Sl), StOk c m H Z σ (locks env ss) F := by
  intro ss
  induction ss generalizing env with
  | nil => exact S
  | cons s ss ih => exact ih (lockS_ok S s)
theorem locks_cons {s : Sl} : locks env (s :: ss) = locks (lockS env s) ss := rfl
theorem lockS_get {s : Sl} {i n : Nat} {d : D} (h : env[i]? = some (.o n d) ∨ env[i]? = some (.w false n d)) : (lockS env s)[i]? = some (.o n d) ∨ (lockS env s)[i]? = some (.w false n d) := by
  unfold lockS; split
  · rename_i j
    by_cases hj : j = i
    · subst hj
      rcases h with h | h
      · rw [h]; have := (List.getElem?_eq_some_iff.mp h).1; right; simp [this]
      · rw [h]; exact .inr h
    · split
      · rw [List.getElem?_set_ne hj]; exact h
      · rw [List.getElem?_set_ne hj]; exact h
      · exact h
  · exact h
theorem lockS_getp {s : Sl} {i n : Nat} {d : D} (h : env[i]? = some (.p n d) ∨ env[i]? = some (.w true n d)) : (lockS env s)[i]? = some (.p n d) ∨ (lockS env s)[i]? = some (.w true n d) := by
  unfold lockS; split
  · rename_i j
    by_cases hj : j = i
    · subst hj
      rcases h with h | h
      · rw [h]; have := (List.getElem?_eq_some_iff.mp h).1; right; simp [this]
      · rw [h]; exact .inr h
    · split
      · rw [List.getElem?_set_ne hj]; exact h
      · rw [List.getElem?_set_ne hj]; exact h
      · exact h
  · exact h
theorem lockS_v {s : Sl} {i : Nat} {t : Sl} (h : env[i]? = some t) (ht : t.free = true ∧ (∀ n d, t ≠ .o n d)) : (lockS env s)[i]? = some t := by
  unfold lockS; split
  · rename_i j
    by_cases hj : j = i
    · subst hj
      rw [h]
      cases t <;> first | exact h | (exfalso; exact ht.2 _ _ rfl) | (cases ht.1)
    · split
      · rw [List.getElem?_set_ne hj]; exact h
      · rw [List.getElem?_set_ne hj]; exact h
      · exact h
  · exact h
/-- a slot that is named is locked -/
theorem locks_w {i n : Nat} {d : D} {b : Bool} : ∀ {ss : List Sl} {env : Env'}, Sl.q i ∈ ss → (env[i]? = some (if b then .p n d else .o n d) ∨ env[i]? = some (.w b n d)) → (locks env ss)[i]? = some (.w b n d)
  | [], _, h, _ => by cases h
  | s :: ss, env, h, e => by
    rw [locks_cons]
    rcases List.mem_cons.mp h with h | h
    · subst h
      refine locks_lk ss _ _ _ _ _ ?_
      rcases e with e | e
      · have := (List.getElem?_eq_some_iff.mp e).1
        cases b with
        | true => rw [if_pos rfl] at e; simp only [lockS, e]; simp [this]
        | false => rw [if_neg (by simp)] at e; simp only [lockS, e]; simp [this]
      · simp only [lockS, e]
    · refine locks_w h ?_
      cases b with
      | true =>
        rw [if_pos rfl] at e ⊢
        exact lockS_getp e
      | false =>
        rw [if_neg (by simp)] at e ⊢
        exact lockS_get e

/-- the sources stand -/
def SrcAt (c : Cn) (H : Hp) (Z : Zn) (σ : L2.St) (env : Env') (x : V) : Rz → Prop
  | .fr d => Rep c.K H Z 0 x d []
  | .ow n d => ∃ (i : Nat) (b : Bool), env[i]? = some (.w b n d) ∧ σ[i]? = some (some x)
inductive SrcAts (c : Cn) (H : Hp) (Z : Zn) (σ : L2.St) (env : Env') : List V → List Rz → Prop
  | nil : SrcAts c H Z σ env [] []
  | cons {x : V} {z : Rz} {xs : List V} {zs : List Rz} : SrcAt c H Z σ env x z → SrcAts c H Z σ env xs zs → SrcAts c H Z σ env (x :: xs) (z :: zs)
theorem SrcAts.later (h : SrcAts c H Z σ env xs zs) (zn : ∀ i a, a ∈ F i → ¬ Z a) (E : Ext H Z F H' Z' F') (l : Lk env env') (p : Pin env σ σ') : SrcAts c H' Z' σ' env' xs zs := by
  induction h with
  | nil => exact .nil
  | cons h _ ih =>
    refine .cons ?_ ih
    rename_i z _ _ _
    cases z with
    | fr d => exact Rs.ext h (fun _ h => by cases h) zn E
    | ow n d => obtain ⟨i, b, h1, h2⟩ := h; exact ⟨i, b, l _ _ _ _ h1, by rw [p i b n d h1]; exact h2⟩
theorem SrcAts.ivs (S : StOk c m H Z σ env F) (h : SrcAts c H Z σ env xs zs) : zs.all Rz.flat = true → IVs c H Z xs (zs.map Rz.dat) := by
  induction h with
  | nil => intro _; exact .nil
  | cons h _ ih =>
    intro f
    simp only [List.all_cons, Bool.and_eq_true] at f
    refine .cons ?_ (ih f.2)
    rename_i z _ _ _
    cases z with
    | fr d => exact IV.of0 h
    | ow n d =>
      obtain ⟨i, b, h1, h2⟩ := h
      obtain ⟨y, h3, _, r⟩ := S.sl i _ h1
      rw [h2] at h3; cases h3
      exact IV.flat (z := .ow n d) ⟨_, r⟩ f.1
theorem src_of (S : StOk c m H Z σ env F) {G0 : List Addr} {ss0 : List Sl} (hl : ∀ {i n : Nat} {d : D} {b : Bool}, Sl.q i ∈ ss0 → (env[i]? = some (if b then .p n d else .o n d) ∨ env[i]? = some (.w b n d)) → env'[i]? = some (.w b n d)) (t : Tmps c H Z σ xs ss G) :
    ∀ {zs : List Rz}, (∀ a ∈ G, a ∈ G0) → (∀ s ∈ ss, s ∈ ss0) → rzs env ss = some zs → SrcAts c H (zadd Z G0) σ env' xs zs := by
  induction t with
  | nil => intro zs _ _ e; cases e; exact .nil
  | cons t _ dj ih =>
    intro zs sub ms e
    rename_i x s Gx xs' ss' G' _
    simp only [rzs] at e
    split at e
    · rename_i z zs' h1 h2
      cases e
      refine .cons ?_ (ih (fun a h => sub a (List.mem_append_right _ h)) (fun s h => ms s (List.mem_cons_of_mem _ h)) h2)
      have up : ∀ {K : PySem.W.Frag} {n : Nat} {vs : List V} {ds : List D} {B : List Addr}, Rs K H Z n vs ds B → Rs K H (zadd Z G0) n vs ds B := fun r => r.keep (fun _ _ e _ => e) fun _ h => .inl h
      cases s with
      | no => cases h1
      | v d => cases h1; exact up t.2
      | o n d => cases h1; exact Rs.freeze t (fun _ h => .inl h) fun a h => .inr (sub a (List.mem_append_left _ h))
      | p n d => cases h1
      | w b n d => cases h1
      | x ex => cases h1
      | q i =>
        obtain ⟨_, hx⟩ := t
        have hm : Sl.q i ∈ ss0 := ms _ List.mem_cons_self
        simp only [Sl.rz] at h1
        split at h1
        · rename_i d q; cases h1
          obtain ⟨_, y, h3, r⟩ := S.sl i _ q
          rw [hx] at h3; cases h3
          exact up r
        · rename_i n d q; cases h1
          exact ⟨i, false, hl hm (.inl (by simpa using q)), hx⟩
        · rename_i n d q; cases h1
          exact ⟨i, true, hl hm (.inl (by simpa using q)), hx⟩
        · rename_i b n d q; cases h1
          exact ⟨i, b, hl hm (.inr q), hx⟩
        · cases h1
    · cases e
/-- the state at a loop's start -/
theorem lock_start (S : StOk c m H Z σ env F) (t : Tmps c H Z σ xs ss G) (sp : Sep Z F G) (hz : rzs env ss = some zs) :
    StOk c m H (zadd Z G) σ (locks env ss) F ∧ SrcAts c H (zadd Z G) σ (locks env ss) xs zs :=
  ⟨locks_ok (S.zone sp.f t.there) ss, src_of S (fun {i n d b} h e => locks_w h e) t (fun _ h => h) (fun _ h => h) hz⟩

/-! ### unlocking -/
theorem unlocks_len : ∀ {ss : List Sl} {e : Env'}, (unlocks env e ss).length = e.length := by
  intro ss
  induction ss with
  | nil => intro e; rfl
  | cons s ss ih =>
    intro e
    show (unlocks env (unlockS env e s) ss).length = _
    rw [ih]
    unfold unlockS; split
    · split <;> simp
    · rfl
theorem unlocks_congr {i : Nat} : ∀ {ss : List Sl} {e e' : Env'}, e.length = e'.length → e[i]? = e'[i]? → (unlocks env e ss)[i]? = (unlocks env e' ss)[i]? := by
  intro ss
  induction ss with
  | nil => intro e e' _ h; exact h
  | cons s ss ih =>
    intro e e' hl h
    show (unlocks env (unlockS env e s) ss)[i]? = (unlocks env (unlockS env e' s) ss)[i]?
    have hs : ∀ {j : Nat} {t : Sl}, (e.set j t)[i]? = (e'.set j t)[i]? := fun {j t} => by
      by_cases hj : j = i
      · subst hj
        rw [List.getElem?_set, List.getElem?_set, hl, if_pos rfl, if_pos rfl]
        try (by_cases q : j < e'.length <;> simp [q])
        try exact h
      · rw [List.getElem?_set_ne hj, List.getElem?_set_ne hj]; exact h
    refine ih ?_ ?_
    · unfold unlockS; split
      · split <;> simp [hl]
      · exact hl
    · unfold unlockS; split
      · split
        · exact hs
        · exact hs
        · exact h
      · exact h
theorem unlocks_ok : ∀ {ss : List Sl} {e : Env'}, StOk c m H Z σ e F → (∀ (i n : Nat) (d : D), Sl.q i ∈ ss → (env[i]? = some (.o n d) → e[i]? = some (.w false n d) ∨ e[i]? = some (.o n d)) ∧ (env[i]? = some (.p n d) → e[i]? = some (.w true n d) ∨ e[i]? = some (.p n d))) → StOk c m H Z σ (unlocks env e ss) F := by
  intro ss
  induction ss with
  | nil => intro e S _; exact S
  | cons s ss ih =>
    intro e S h
    show StOk c m H Z σ (unlocks env (unlockS env e s) ss) F
    unfold unlockS
    split
    · rename_i j
      split
      · rename_i n d q
        have hj := (h j n d List.mem_cons_self).1 q
        have hl : j < e.length := by rcases hj with hj | hj <;> exact (List.getElem?_eq_some_iff.mp hj).1
        refine ih (S.reslot hl ?_) fun i n' d' hi => ⟨fun e1 => ?_, fun e1 => ?_⟩
        · rcases hj with hj | hj
          · obtain ⟨x, h1, _, r⟩ := S.sl j _ hj; exact ⟨x, h1, r⟩
          · exact S.sl j _ hj
        · by_cases e2 : j = i
          · subst e2; rw [q] at e1; cases e1; right; simp [hl]
          · rw [List.getElem?_set_ne e2]; exact (h i n' d' (List.mem_cons_of_mem _ hi)).1 e1
        · by_cases e2 : j = i
          · subst e2; rw [q] at e1; cases e1
          · rw [List.getElem?_set_ne e2]; exact (h i n' d' (List.mem_cons_of_mem _ hi)).2 e1
      · rename_i n d q
        have hj := (h j n d List.mem_cons_self).2 q
        have hl : j < e.length := by rcases hj with hj | hj <;> exact (List.getElem?_eq_some_iff.mp hj).1
        refine ih (S.reslot hl ?_) fun i n' d' hi => ⟨fun e1 => ?_, fun e1 => ?_⟩
        · rcases hj with hj | hj
          · obtain ⟨x, h1, h2, r⟩ := S.sl j _ hj; exact ⟨x, h1, h2 rfl, r⟩
          · exact S.sl j _ hj
        · by_cases e2 : j = i
          · subst e2; rw [q] at e1; cases e1
          · rw [List.getElem?_set_ne e2]; exact (h i n' d' (List.mem_cons_of_mem _ hi)).1 e1
        · by_cases e2 : j = i
          · subst e2; rw [q] at e1; cases e1; right; simp [hl]
          · rw [List.getElem?_set_ne e2]; exact (h i n' d' (List.mem_cons_of_mem _ hi)).2 e1
      · exact ih S fun i n' d' hi => h i n' d' (List.mem_cons_of_mem _ hi)
    · exact ih S fun i n' d' hi => h i n' d' (List.mem_cons_of_mem _ hi)
/-- behind a loop -/
theorem unlock_ok (S : StOk c m H Z σ e2 F) (l : Lk (locks env ss) e2) : StOk c m H Z σ (unlocks env e2 ss) F :=
  unlocks_ok S fun i n d hi => ⟨fun e => .inl (l _ _ _ _ (locks_w (b := false) hi (.inl (by simpa using e)))), fun e => .inl (l _ _ _ _ (locks_w (b := true) hi (.inl (by simpa using e))))⟩
end
end DL
end
section
set_option Elab.async false
set_option linter.all false
set_option maxRecDepth 100000
set_option maxHeartbeats 3900000
/-! DL13: comprehensions. -/
namespace DL
open PySem PySem.Spec L2

/-- what a def's text names: defs (number, name), defs called by keywords, constants -/
structure Tb where
  fn : List (Nat × Str)
  fk : List (Nat × Str × List Str × List Nat)
  gc : List (Nat × Str)
structure BX (X : Cx) (c : Cn) (T : Txt) (W : WX) (N : List Str) (sc : Scope) (fx : Str → Bool) (tb : Tb) : Prop where
  cb : CB X c N sc fx
  calm : X.calm = true
  tk : Takes X W
  po : PassesOwn (model X.prog X.w) X.A X.env X.xe
  fn : ∀ p ∈ tb.fn, Cal X c T p.1 p.2
  fk : ∀ p ∈ tb.fk, CalK X c T p.1 p.2.1 p.2.2.1 p.2.2.2
  gc : ∀ p ∈ tb.gc, Gc X T p.1 p.2
abbrev W0 : WX := fun _ _ _ _ => False
def fxB (scope : Scope) : Str → Bool := fun x => scope.names.lookup x == some .cell
section
variable {X : Cx} {c : Cn} {m : Am} {T : Txt} {W : WX} {N : List Str} {sc scope : Scope} {fx : Str → Bool} {tb : Tb} {e a b d : Expr} {es ifs : List Expr} {r ra rb rc : RE} {rs rifs : List RE} {pos p2 p3 p : Pos} {x : Str}
theorem BX.blk (B : BX X c T W N sc fx tb) (s : Shared) (H : Hp) (C : Addr) (cl : List (Str × Addr)) (fp : List Addr) : BX (X.blk s H scope (compEnvC scope cl C X.env) fp) c T W0 N (relS scope sc) (fxB scope) tb where
  cb := { hf := fun x h => h, hK := B.cb.hK, hN := B.cb.hN, nd := B.cb.nd, hs := by rw [← B.cb.hs]; rfl, hu := B.cb.hu, hg := B.cb.hg, bl := B.cb.bl }
  calm := B.calm
  tk := fun u s' ⟨_, _, _, _, _, _, _, _, _, _, _, _, _, _, _, _, w⟩ => w.elim
  po := PassesOwn.never
  fn := fun p h => ⟨(B.fn p h).ex⟩
  fk := fun p h => ⟨(B.fk p h).ex⟩
  gc := B.gc

/-! ### a clause's tests -/
def rdTs (c : Cn) (m : Am) (T : Txt) (rs : List RE) : TT := fun σ H Q => ∃ env Z F, StOk c m H Z σ env F ∧ wpTs T rs env fun b e1 => PostB c m σ H Z F Q b e1
theorem ts_nil : PTs X [] (rdTs c m T []) := ⟨fun pn0 s σ H Q I ⟨env, Z, F, S, h⟩ => pts_nil.run pn0 s σ H Q I (by
  simp only [wpTs] at h
  exact h H Z F (Ext.refl ..) S)⟩
theorem ts_one (h : PT X e (rdT c m T W0 r)) : PTs X [e] (rdTs c m T [r]) := ⟨fun pn0 s σ H Q I ⟨env, Z, F, S, hw⟩ => (pts_one h).run pn0 s σ H Q I (by
  simp only [wpTs] at hw
  exact ⟨env, Z, F, S, wpE_mono r env hw (fun s e1 h1 => tstQ_mono h1 fun t q => by cases t <;> simpa using q) fun _ _ h => h.elim⟩)⟩

/-! ### the state of a block -/
theorem wipe_in {own : List Nat} {σ : L2.St} {i : Nat} (h : i ∉ own) : (wipe σ own)[i]? = σ[i]? := wipe_out h
def fclr (F : Fs) (own : List Nat) : Fs := fun i => if i ∈ own then [] else F i
theorem fclr_sub {F : Fs} {own : List Nat} {i : Nat} : ∀ a ∈ fclr F own i, a ∈ F i := fun a h => by
  unfold fclr at h; split at h
  · cases h
  · exact h
theorem wipe_ok {H : Hp} {Z : Zn} {σ : L2.St} {env : Env'} {F : Fs} (S : StOk c m H Z σ env F) (own : List Nat) : StOk c m H Z (wipe σ own) (clr env own) (fclr F own) where
  len := by rw [clr_len, wipe_length]; exact S.len
  sl := fun i s e => by
    by_cases hi : i ∈ own
    · have := clr_in hi e
      subst this
      show fclr F own i = []
      unfold fclr; rw [if_pos hi]
    · rw [clr_out hi] at e
      have : fclr F own i = F i := by unfold fclr; rw [if_neg hi]
      rw [this]
      exact (S.sl i s e).stay (wipe_in hi)
  out := fun i hi => by
    rw [clr_len] at hi
    unfold fclr; split
    · rfl
    · exact S.out i hi
  dis := fun i j a hij h1 h2 => S.dis i j a hij (fclr_sub a h1) (fclr_sub a h2)
  zn := fun i a h => S.zn i a (fclr_sub a h)
  zh := S.zh
theorem Ext.clr {H H' : Hp} {Z Z' : Zn} {F F' : Fs} {own : List Nat} (e : Ext H Z F H' Z' F') : Ext H Z F H' Z' (fclr F' own) where
  keep := e.keep
  dom := e.dom
  fsub := fun i a h => e.fsub i a (fclr_sub a h)
  zsub := e.zsub
  znew := e.znew
theorem wipe_wipe {σ2 σ : L2.St} {own : List Nat} (hl : σ2.length = σ.length) (h : ∀ i, i ∉ own → σ2[i]? = σ[i]?) : wipe σ2 own = wipe σ own := by
  have set_in : ∀ (vs : List Nat) (τ : L2.St) (i : Nat), i ∈ vs → (wipe τ vs)[i]? = if i < τ.length then some none else none := by
    intro vs
    induction vs with
    | nil => intro τ i h; cases h
    | cons v vs ih =>
      intro τ i hi
      show ((wipe τ vs).set v none)[i]? = _
      by_cases e : v = i
      · subst e
        rw [List.getElem?_set, if_pos rfl, wipe_length]
      · rw [List.getElem?_set_ne e]
        exact ih τ i ((List.mem_cons.mp hi).resolve_left fun q => e q.symm)
  refine List.ext_getElem? fun i => ?_
  by_cases hi : i ∈ own
  · rw [set_in own σ2 i hi, set_in own σ i hi, hl]
  · rw [wipe_in hi, wipe_in hi]; exact h i hi

/-- an untracked list is written -/
theorem updD_ok {H : Hp} {Z : Zn} {σ : L2.St} {env : Env'} {F : Fs} {D : Addr} {ys zs : List V} (S : StOk c m H Z σ env F) (hd : H D = some (.lst ys)) (nz : ¬ Z D) (nf : ∀ i, D ∉ F i) : StOk c m (upd H D (.lst zs)) Z σ env F where
  len := S.len
  sl := fun i s e => (S.sl i s e).ext (fun a ha => upd_ne fun q => nf i (q ▸ ha)) (fun a o q k => by
    by_cases e2 : a = D
    · subst e2
      rw [hd] at q; cases q
      rcases k with k | k
      · exact absurd trivial k
      · exact absurd k nz
    · rw [upd_ne e2]; exact q) fun _ h => h
  out := S.out
  dis := S.dis
  zn := S.zn
  zh := fun a h q => by
    by_cases e2 : a = D
    · subst e2; rw [upd_same] at q; cases q
    · rw [upd_ne e2] at q; exact S.zh a h q
theorem updD_rs {K : PySem.W.Frag} {H : Hp} {Z : Zn} {n : Nat} {vs : List V} {ds : List D} {G : List Addr} {D : Addr} {ys zs : List V} (r : Rs K H Z n vs ds G) (hd : H D = some (.lst ys)) (nz : ¬ Z D) (nf : D ∉ G) : Rs K (upd H D (.lst zs)) Z n vs ds G :=
  r.keep (fun a o q k => by
    by_cases e2 : a = D
    · subst e2
      rw [hd] at q; cases q
      rcases k with k | k | k
      · exact absurd trivial k
      · exact absurd k nz
      · exact absurd k nf
    · rw [upd_ne e2]; exact q) fun _ h => h
theorem updD_src {H : Hp} {Z : Zn} {σ : L2.St} {env : Env'} {D : Addr} {ys zs' : List V} {xs : List V} {zs : List Rz} (h : SrcAts c H Z σ env xs zs) (hd : H D = some (.lst ys)) (nz : ¬ Z D) : SrcAts c (upd H D (.lst zs')) Z σ env xs zs := by
  induction h with
  | nil => exact .nil
  | cons h _ ih =>
    refine .cons ?_ ih
    rename_i z _ _ _
    cases z with
    | fr d => exact updD_rs h hd nz (by simp)
    | ow n d => exact h
theorem updD_ext {H0 H : Hp} {Z0 Z : Zn} {F0 F : Fs} {D : Addr} {o : HO} (E : Ext H0 Z0 F0 H Z F) (hn : H0 D = none) : Ext H0 Z0 F0 (upd H D o) Z F where
  keep := fun a u e k => by rw [upd_ne (ne_of_none e hn)]; exact E.keep a u e k
  dom := fun a h q => by
    by_cases e2 : a = D
    · subst e2; exact h hn
    · rw [upd_ne e2] at q; exact E.dom a h q
  fsub := E.fsub
  zsub := E.zsub
  znew := E.znew
theorem compW_ts_lk {ds acc : List D} {tgt : Tg} {own : List Nat} {env : Env'} {K : List D → Env' → Prop} {d : D} {e1 : Env'} (hb : bindT tgt d (clr env own) = some e1)
    (h : compW tgt own (fun e K => wpTs T rifs e K) (fun e K => wpE T r e K fun _ _ => False) (d :: ds) acc env K) :
    wpTs T rifs e1 fun b e2 => Lk (clr env own) e2 ∧ if b = true then wpE T r e2 (fun s e3 => Lk (clr env own) e3 ∧ match s.val with
        | some x => acc.length < sizeLine ∧ compW tgt own (fun e K => wpTs T rifs e K) (fun e K => wpE T r e K fun _ _ => False) ds (acc ++ [x]) e3 K
        | none => False) (fun _ _ => False) else compW tgt own (fun e K => wpTs T rifs e K) (fun e K => wpE T r e K fun _ _ => False) ds acc e2 K := by
  unfold compW at h
  have hb' : bindT tgt d (own.foldl (fun e i => e.set i .no) env) = some e1 := hb
  rw [hb'] at h
  dsimp only at h
  have l1 : Lk (clr env own) e1 := bindT_lk _ _ _ hb
  refine wpTs_mono rifs e1 (wpTs_lk rifs e1 h) fun b e2 ⟨l2, q⟩ => ⟨l1.trans l2, ?_⟩
  refine iteM q (fun q => ?_) fun q => q
  exact wpE_mono r e2 (wpE_lk r e2 q) (fun s e3 ⟨l3, q⟩ => ⟨(l1.trans l2).trans l3, q⟩) fun _ _ h => h.2

mutual
theorem bindT_len : ∀ (t : Tg) (d : D) (env : Env') {e : Env'}, bindT t d env = some e → e.length = env.length
  | .nm i, d, env, e, h => by
    simp only [bindT] at h
    obtain ⟨_, rfl, _⟩ := setS_get h
    simp
  | .tp ts, d, env, e, h => by
    simp only [bindT] at h; split at h
    · exact bindTs_len' ts _ env h
    · exact bindTs_len' ts _ env h
    · cases h
theorem bindTs_len' : ∀ (ts : List Tg) (ds : List D) (env : Env') {e : Env'}, bindTs ts ds env = some e → e.length = env.length
  | [], [], env, e, h => by simp only [bindTs] at h; cases h; rfl
  | t :: ts, d :: ds, env, e, h => by
    simp only [bindTs] at h; split at h
    · rename_i e1 h1; exact (bindTs_len' ts ds _ h).trans (bindT_len t d env h1)
    · cases h
  | [], _ :: _, env, e, h => by simp [bindTs] at h
  | _ :: _, [], env, e, h => by simp [bindTs] at h
end
theorem comp_read {own : List Nat} {tgt : Tg} {k : SrcK} {σ : L2.St} {H : Hp} {Q : VK} (hsub : (tgN tgt).all (fun i => decide (i ∈ own)) = true) (h : rdE c m T W (.comp own tgt k rs rifs r) σ H Q) :
    tLc (rdI c m T W k rs) (rdG c m tgt) (rdTs c m T rifs) (rdE c m T W0 r) own σ H Q := by
  obtain ⟨env, Z, F, S, h⟩ := h
  simp only [wpE] at h
  refine ⟨env, Z, F, S, wpEs_mono rs env h (fun ss e1 h1 => ?_) fun _ _ h => h⟩
  obtain ⟨hok, h1⟩ := h1
  unfold srcQ at h1
  split at h1
  · rename_i zs hz
    refine ⟨zs, hz, h1.1, srcD_mono h1.2 fun ds h2 xs H1 Z1 F1 G J E1 S1 t sp gs wk Da hD => ?_⟩
    have fl := h1.1
    obtain ⟨SL, src0⟩ := lock_start S1 t sp hz
    let ZG := zadd Z1 G
    let Kf : List D → Env' → Prop := fun acc e2 => PostE c m σ H Z F Q (.o 0 (.lst acc)) (restore e1 (unlocks e1 e2 ss) own)
    -- own slots are not owned
    have ownv : ∀ i ∈ own, e1[i]? = some .no ∨ ∃ d, e1[i]? = some (.v d) := fun i hi => by
      have := List.all_eq_true.mp hok i hi
      split at this
      · rename_i q; exact .inl q
      · rename_i d q; exact .inr ⟨d, q⟩
      · cases this
    have ownw : ∀ i b n d, (locks e1 ss)[i]? = some (.w b n d) → i ∉ own := fun i b n d q hi => by
      have keep : ∀ (ss : List Sl) (t : Sl), t.free = true ∧ (∀ n d, t ≠ .o n d) → ∀ env : Env', env[i]? = some t → (locks env ss)[i]? = some t := by
        intro ss t ht
        induction ss with
        | nil => intro env h; exact h
        | cons s ss ih => intro env h; exact ih _ (lockS_v h ht)
      rcases ownv i hi with q2 | ⟨d', q2⟩
      · rw [keep ss .no ⟨rfl, fun _ _ h => by cases h⟩ e1 q2] at q; cases q
      · rw [keep ss (.v d') ⟨rfl, fun _ _ h => by cases h⟩ e1 q2] at q; cases q
    let Wk : Nat → Nat → Hp → Prop := fun i mm H' => i ≤ ds.length ∧ mm = ds.length - i ∧ ∃ (ev : Env') (Z' : Zn) (F' : Fs) (acc : List D) (accV : List V),
      H' Da = some (.lst accV) ∧ Rs c.K H' Z' 0 accV acc [] ∧ ¬ Z' Da ∧ (∀ j, Da ∉ F' j) ∧ Ext H1 ZG F1 H' Z' F' ∧ StOk c m H' Z' (wipe σ own) (clr ev own) F' ∧ Lk (locks e1 ss) (clr ev own) ∧
      SrcAts c H' Z' (wipe σ own) (clr ev own) xs zs ∧ compW tgt own (fun e K => wpTs T rifs e K) (fun e K => wpE T r e K fun _ _ => False) (ds.drop i) acc ev Kf
    have wiped : ∀ (ev : Env'), Lk (locks e1 ss) ev → Lk (locks e1 ss) (clr ev own) := fun ev l i b n d q => by
      rw [clr_out (ownw i b n d q)]; exact l i b n d q
    refine ⟨Wk, ⟨ds.length, Nat.zero_le _, by simp, locks e1 ss, ZG, fclr F1 own, [], [], upd_same, .nil, ?_, ?_, ?_, ?_, wiped _ (Lk.refl _), ?_, ?_⟩, ?_⟩
    · exact fun hz => SL.zh Da hz hD
    · exact fun j hj => S1.there (fclr_sub _ hj) hD
    · exact updD_ext (Ext.clr (Ext.refl ..)) hD
    · exact (wipe_ok SL own).grow (grow_upd hD)
    · exact SrcAts.later (F := F1) (F' := fclr F1 own) src0 SL.zn (updD_ext (Ext.clr (Ext.refl ..)) hD) (wiped _ (Lk.refl _)) fun i b n d q => wipe_in (ownw i b n d q)
    · rw [List.drop_zero]; exact h2
    intro i mm H' hW
    obtain ⟨hi, rfl, ev, Z', F', acc, accV, hDv, rAcc, nz, nf, E', S', l', src, hc⟩ := hW
    obtain ⟨go, stop, yld⟩ := wk H' Z' (src.ivs S' fl)
    by_cases hlt : i < ds.length
    · right
      refine ⟨go i hlt, Wk (i + 1) (ds.length - (i + 1)), fun H2 hw => ⟨_, by omega, hw⟩, fun y H2 hy => ?_⟩
      obtain ⟨gr, d, hd, rd⟩ := yld i y H2 hy hlt
      have S2 : StOk c m H2 Z' (wipe σ own) (clr ev own) F' := S'.grow gr
      have E2 : Ext H' Z' F' H2 Z' F' := Ext.grow gr
      have hdrop : ds.drop i = d :: ds.drop (i + 1) := by
        rw [List.drop_eq_getElem_cons (h := hlt)]
        congr 1
        rw [List.getElem?_eq_getElem hlt] at hd
        exact Option.some.inj hd
      rw [hdrop] at hc
      have hb : ∃ e2, bindT tgt d (clr ev own) = some e2 := by
        unfold compW at hc
        split at hc
        · rename_i e2 q; exact ⟨e2, q⟩
        · exact hc.elim
      obtain ⟨e2, hb⟩ := hb
      have hc := compW_ts_lk hb hc
      refine ⟨clr ev own, Z', F', d, S2, rd, e2, hb, fun σ2 F2 E3 S3 P3 o3 => ?_⟩
      have hw2 : wipe σ2 own = wipe σ own := by
        have e1 := wipe_wipe (σ2 := σ2) (σ := wipe σ own) (own := own) (by have a := S3.len; have b := S2.len; rw [← a, ← b]; exact bindT_len _ _ _ hb) fun j hj => o3 j fun q => hj (of_decide_eq_true (List.all_eq_true.mp hsub j q))
        rw [e1]
        exact wipe_wipe (wipe_length ..) fun j hj => wipe_in hj
      have pin2 : ∀ {e3 : Env'}, Pin (clr ev own) (wipe σ own) σ2 := fun {e3} => P3
      refine ⟨hw2, e2, Z', F2, S3, wpTs_mono rifs e2 hc fun bt e3 ⟨l3, hq⟩ H4 Z4 F4 E4 S4 => ?_⟩
      have hDv4 : ∀ {H5 : Hp} {Z5 : Zn} {F5 : Fs}, Ext H' Z' F' H5 Z5 F5 → H5 Da = some (.lst accV) ∧ ¬ Z5 Da ∧ ∀ j, Da ∉ F5 j := fun {H5 Z5 F5} E => by
        refine ⟨E.keep Da _ hDv (.inr nf), fun hz => ?_, fun j hj => ?_⟩
        · rcases E.znew Da hz with h | ⟨j, hj⟩ | h
          · exact nz h
          · exact nf j hj
          · rw [hDv] at h; cases h
        · rcases E.fsub j Da hj with ⟨j', h⟩ | h
          · exact nf j' h
          · rw [hDv] at h; cases h
      -- the next turn's state
      have next : ∀ {H5 : Hp} {Z5 : Zn} {F5 : Fs} {e5 : Env'} {acc5 : List _} {accV5 : List V}, Ext H' Z' F' H5 Z5 F5 → StOk c m H5 Z5 σ2 e5 F5 → Lk (clr ev own) e5 → Rs c.K H5 Z5 0 accV5 acc5 [] →
          compW tgt own (fun e K => wpTs T rifs e K) (fun e K => wpE T r e K fun _ _ => False) (ds.drop (i + 1)) acc5 e5 Kf → Wk (i + 1) (ds.length - (i + 1)) (upd H5 Da (.lst accV5)) := by
        intro H5 Z5 F5 e5 acc5 accV5 E5 S5 l5 r5 c5
        obtain ⟨k1, k2, k3⟩ := hDv4 E5
        have S6 := wipe_ok S5 own
        rw [hw2] at S6
        have lq : Lk (locks e1 ss) e5 := l'.trans l5
        have src5 : SrcAts c H5 Z5 (wipe σ own) (clr e5 own) xs zs := src.later S'.zn E5 (fun j b n d q => by
          have hj : j ∉ own := fun hj => by rw [clr_get, if_pos hj] at q; cases e0 : ev[j]? <;> rw [e0] at q <;> cases q
          rw [clr_out hj]; exact l5 j b n d q) (Pin.refl _ _)
        refine ⟨by omega, rfl, e5, Z5, fclr F5 own, acc5, accV5, upd_same, updD_rs r5 k1 k2 (by simp), k2, fun j hj => k3 j (fclr_sub _ hj), updD_ext (E'.trans E5).clr hD, updD_ok S6 k1 k2 fun j hj => k3 j (fclr_sub _ hj), wiped _ lq, updD_src src5 k1 k2, c5⟩
      have E24 : Ext H' Z' F' H4 Z4 F4 := (E2.trans E3).trans E4
      cases bt with
      | false =>
        rw [if_neg (by simp)] at hq
        show (if (false = true) then _ else _)
        rw [if_neg (by simp)]
        obtain ⟨k1, k2, k3⟩ := hDv4 E24
        have := next E24 S4 l3 (rAcc.ext (fun _ h => by cases h) S'.zn E24) hq
        have hid : upd H4 Da (.lst accV) = H4 := by
          funext a
          by_cases e : a = Da
          · subst e; rw [upd_same, k1]
          · rw [upd_ne e]
        rw [hid] at this
        exact this
      | true =>
        rw [if_pos rfl] at hq
        show (if (true = true) then _ else _)
        rw [if_pos rfl]
        refine ⟨e3, Z4, F4, S4, wpE_mono r e3 hq (fun s e5 ⟨l5, hs⟩ y5 H5 Z5 F5 G5 E5 S5 t5 sp5 gs5 => ?_) fun _ _ h => h.elim⟩
        have E25 := E24.trans E5
        obtain ⟨k1, k2, k3⟩ := hDv4 E25
        refine ⟨accV, k1, ?_, ?_⟩
        · have hl := rAcc.length
          split at hs
          · rw [hl]; exact hs.1
          · exact hs.elim
        split at hs
        · rename_i xd hx
          have Gn : Da ∉ G5 := fun hg => by
            rcases gs5 Da hg with ⟨j, hj⟩ | hn
            · exact (hDv4 E24).2.2 j hj
            · rw [(hDv4 E24).1] at hn; cases hn
          have ry : Rep c.K H5 (zadd Z5 G5) 0 y5 xd [] := by
            cases s with
            | v d => cases hx; exact Rs.keep t5.2 (fun _ _ e _ => e) fun _ h => .inl h
            | o n d => cases hx; exact Rs.freeze t5 (fun _ h => .inl h) fun _ h => .inr h
            | _ => cases hx
          have S6 : StOk c m H5 (zadd Z5 G5) σ2 e5 F5 := S5.zone sp5.f t5.there
          have E6 : Ext H' Z' F' H5 (zadd Z5 G5) F5 := Ext.zone (gs5.back E24) E25
          exact next E6 S6 l5 ((rAcc.ext (fun _ h => by cases h) S'.zn E6).append0 (.cons0 ry .nil)) hs.2
        · exact hs.elim
    · left
      have hi' : i = ds.length := by omega
      refine ⟨stop i (by omega), ?_⟩
      rw [hi', List.drop_length] at hc
      have hc : Kf acc ev := hc
      -- the def's own state again
      have E1' : Ext H Z F H1 ZG F1 := Ext.zone gs E1
      have lev : Lk (locks e1 ss) (clr ev own) := l'
      have SU := unlock_ok (e2 := clr ev own) (ss := ss) (env := e1) S' lev
      have hlen : ev.length = e1.length := by
        have a := S'.len
        have b := S1.len
        rw [clr_len, wipe_length] at a
        omega
      have Sfin : StOk c m H' Z' σ (restore e1 (unlocks e1 ev ss) own) F' := by
        refine ⟨?_, fun j s e => ?_, fun j hj => ?_, S'.dis, S'.zn, S'.zh⟩
        · rw [restore_len, unlocks_len, hlen]; exact S1.len
        · rw [restore_get (by rw [unlocks_len]; exact hlen)] at e
          by_cases hj : j ∈ own
          · rw [if_pos hj] at e
            have hF : F' j = [] := by
              have hjl : j < ev.length := by have := (List.getElem?_eq_some_iff.mp e).1; omega
              exact S'.sl j .no (by rw [clr_get, if_pos hj]; simp [hjl])
            have s1 := S1.sl j s e
            have hF1 : F1 j = [] := by
              rcases ownv j hj with q | ⟨d, q⟩
              · rw [q] at e; cases e; exact s1
              · rw [q] at e; cases e; exact s1.1
            rw [hF]
            rw [hF1] at s1
            exact s1.ext (fun _ h => by cases h) (fun a o q k => E'.keep a o q (k.imp id fun z i hi => S1.zn i a hi z)) fun a z => E'.zsub a (.inl z)
          · rw [if_neg hj] at e
            have e' : (unlocks e1 (clr ev own) ss)[j]? = some s := by
              rw [← e]
              exact unlocks_congr (by rw [clr_len]) (by rw [clr_out hj])
            exact (SU.sl j s e').stay (wipe_in hj).symm
        · rw [restore_len, unlocks_len] at hj
          exact S'.out j (by rw [clr_len]; exact hj)
      refine hc (.ref Da) H' Z' F' [Da] (E1'.trans E') Sfin (Rep.mk_lst1 hDv rAcc (by simp)) ⟨fun a ha => ?_, fun a ha j => ?_⟩ fun a ha => ?_
      · rw [List.mem_singleton] at ha; subst ha; exact nz
      · rw [List.mem_singleton] at ha; subst ha; exact nf j
      · rw [List.mem_singleton] at ha; subst ha; exact .inr (none_of fun q => E1'.dom _ q hD)
  · exact h1.elim
end
end DL
end
section
set_option Elab.async false
set_option linter.all false
set_option maxRecDepth 100000
set_option maxHeartbeats 3900000
/-! DL14: statements, node by node. -/
namespace DL
open PySem PySem.Spec L2

def KsD (c : Cn) (m : Am) (W : WX) (D : Ends) (env : Env') (σ : L2.St) (H : Hp) (Z : Zn) (F : Fs) : Ks where
  nx := fun e => ∀ σ' H' Z' F', Ext H Z F H' Z' F' → StOk c m H' Z' σ' e F' → Pin env σ σ' → D.nx σ' H'
  rt := fun s e => ∀ x σ' H' Z' F' G, Ext H Z F H' Z' F' → StOk c m H' Z' σ' e F' → TOk c H' Z' σ' x G s → Sep Z' F' G → GSub H F G → D.rt x H'
  ex := fun x e => ∀ cls d σ' H' Z' F', Ext H Z F H' Z' F' → StOk c m H' Z' σ' e F' → ExOk c H' Z' x cls d → Pin env σ σ' → W cls d σ' H'
def rdS (c : Cn) (m : Am) (T : Txt) (W : WX) (r : RS) : TS := fun D σ H => ∃ env Z F, StOk c m H Z σ env F ∧ wpS T r env (KsD c m W D env σ H Z F)
def rdSs (c : Cn) (m : Am) (T : Txt) (W : WX) (r : List RS) : TS := fun D σ H => ∃ env Z F, StOk c m H Z σ env F ∧ wpSs T r env (KsD c m W D env σ H Z F)
theorem _root_.L2.PS.imp' {X : Cx} {s : Stmt} {t t' : TS} (h : PS X s t) (k : ∀ D σ H, t' D σ H → t D σ H) : PS X s t' := ⟨fun pn0 s σ H D I q => h.run pn0 s σ H D I (k D σ H q)⟩
theorem _root_.L2.PSs.imp' {X : Cx} {s : List Stmt} {t t' : TS} (h : PSs X s t) (k : ∀ D σ H, t' D σ H → t D σ H) : PSs X s t' := ⟨fun pn0 s σ H D I q => h.run pn0 s σ H D I (k D σ H q)⟩
section
variable {X : Cx} {c : Cn} {m : Am} {T : Txt} {W : WX} {N : List Str} {sc scope : Scope} {fx : Str → Bool} {tb : Tb} {e a b d : Expr} {es ifs : List Expr} {r ra rb rc : RE} {rs rifs : List RE} {pos p2 p3 p : Pos} {x : Str} {st : Stmt} {sts : List Stmt} {q : RS} {qs : List RS} {D : Ends}
  {σ σ' : L2.St} {H H' : Hp} {Z Z' : Zn} {F F' : Fs} {env env' : Env'}
/-- from a later state -/
theorem KsD.from (E : Ext H Z F H' Z' F') (l : Lk env env') (P : Pin env σ σ') : (KsD c m W D env σ H Z F).Le (KsD c m W D env' σ' H' Z' F') where
  nx := fun e h σ2 H2 Z2 F2 E2 S2 P2 => h σ2 H2 Z2 F2 (E.trans E2) S2 (P.trans l P2)
  rt := fun s e h x σ2 H2 Z2 F2 G E2 S2 t sp gs => h x σ2 H2 Z2 F2 G (E.trans E2) S2 t sp (gs.back E)
  ex := fun x e h cls d σ2 H2 Z2 F2 E2 S2 xo P2 => h cls d σ2 H2 Z2 F2 (E.trans E2) S2 xo (P.trans l P2)
/-- an exception within an expression -/
theorem KsD.exE {x : Ex} {e : Env'} (h : (KsD c m W D env σ H Z F).ex x e) : PostX c m σ H Z F W x e := fun cls d H' Z' F' E S xo => h cls d σ H' Z' F' E S xo (Pin.refl _ _)
theorem s_nil : PSs X [] (rdSs c m T W []) := pss_nil.imp' fun D σ H ⟨env, Z, F, S, h⟩ => by
  simp only [wpSs] at h
  exact h σ H Z F (Ext.refl ..) S (Pin.refl _ _)
theorem s_cons (h1 : PS X st (rdS c m T W q)) (h2 : PSs X sts (rdSs c m T W qs)) : PSs X (st :: sts) (rdSs c m T W (q :: qs)) := (pss_cons h1 h2).imp' fun D σ H ⟨env, Z, F, S, h⟩ => by
  simp only [wpSs] at h
  refine ⟨env, Z, F, S, wpS_mono q env (wpS_lk q env h) ⟨fun e hh σ' H' Z' F' E' S' P' => ?_, fun s e hh => hh.2, fun x e hh => hh.2⟩⟩
  exact ⟨e, Z', F', S', wpSs_mono qs e hh.2 (KsD.from E' hh.1 P')⟩

/-! ### stores -/
theorem asg_read {i : Nat} (h : rdS c m T W (.asg (.nm i) r) D σ H) : rdE c m T W r σ H fun x H1 => D.nx (σ.set i (some x)) H1 := by
  obtain ⟨env, Z, F, S, h⟩ := h
  simp only [wpS] at h
  refine ⟨env, Z, F, S, wpE_mono r env (wpE_lk r env h) (fun s e1 h1 x H1 Z1 F1 G E1 S1 t sp gs => ?_) fun x e h => KsD.exE h.2⟩
  obtain ⟨l1, h1⟩ := h1
  simp only [asgQ] at h1
  split at h1
  · rename_i d hd
    split at h1
    · rename_i e2 hs
      obtain ⟨k1, rfl, tt, k3, k4⟩ := setS_get hs
      have hσ : i < σ.length := by rw [← S1.len]; exact k1
      refine h1 (σ.set i (some x)) H1 Z1 (fset F1 i G) (E1.put gs) (S1.put k1 sp ?_) fun j b n d' q => pin_set k3 k4 j b n d' (l1 _ _ _ _ q)
      cases s with
      | v d => exact ⟨t.1, x, by simp [hσ], t.2⟩
      | o n d => exact ⟨x, by simp [hσ], t⟩
      | _ => cases hd
    · exact h1.elim
  · exact h1.elim
theorem s_set {i : Nat} {py : Pos} (B : CB X c N sc fx) (h : locC sc fx N i x = true) (he : PE X e (rdE c m T W r)) (hs : swapsWith e (some (.Name x py)) pos.line X.env = pure false := by rfl) : PS X (.Assign [.Name x py] e pos) (rdS c m T W (.asg (.nm i) r)) := by
  obtain ⟨h1, h2, h3⟩ := B.loc h
  exact (ps_set B.ND h1 h2 he hs h3).imp' fun D σ H h => asg_read h
theorem s_asg {t : Tg} {tg : Expr} (he : PE X e (rdE c m T W r)) (hg : PG X tg (rdG c m t)) (ht : (match t with | .nm _ => false | _ => true) = true := by rfl) (hs : swapsWithSole [tg] e pos.line X.env = pure false := by rfl) (hw : swappedStores [tg] e X.env = pure none := by rfl)
    (h1 : (assignEach [tg] X.env).map (·.2) = [assign tg X.env] := by rfl) : PS X (.Assign [tg] e pos) (rdS c m T W (.asg t r)) := (ps_asg he hg hs hw h1).imp' fun D σ H ⟨env, Z, F, S, h⟩ => by
  simp only [wpS] at h
  refine ⟨env, Z, F, S, wpE_mono r env (wpE_lk r env h) (fun s e1 h1 x H1 Z1 F1 G E1 S1 t1 sp gs => ?_) fun x e h => KsD.exE h.2⟩
  obtain ⟨l1, h1⟩ := h1
  cases t with
  | nm i => cases ht
  | tp ts =>
    simp only [asgQ] at h1
    split at h1
    · rename_i d hd
      split at h1
      · rename_i e2 hb
        have S2 : StOk c m H1 (zadd Z1 G) σ e1 F1 := S1.zone sp.f t1.there
        have E2 : Ext H Z F H1 (zadd Z1 G) F1 := Ext.zone gs E1
        refine ⟨e1, zadd Z1 G, F1, d, S2, ?_, e2, hb, fun σ2 F2 E3 S3 P3 o3 => h1 σ2 H1 _ F2 (E2.trans E3) S3 ((Pin.refl env σ).trans l1 P3)⟩
        cases s with
        | v d => cases hd; exact Rs.keep t1.2 (fun _ _ e _ => e) fun _ h => .inl h
        | o n d => cases hd; exact Rs.freeze t1 (fun _ h => .inl h) fun _ h => .inr h
        | _ => cases hd
      · exact h1.elim
    · exact h1.elim
/-- name = [..] -/
theorem s_setLc {i : Nat} {y : Str} {py : Pos} {elt tg iter : Expr} {own : List (Str × Nat)} {spos : Pos} {k : SrcK} {t : Tg} (B : BX X c T W N sc fx tb) (hy : locC sc (fun _ => false) N i y = true)
    (hl : (py.line == pos.line) = true) (hn : (scope.names.any fun (n, k) => n == y && (k == .local || k == .cell)) = false) (hkd : sc.kind = .function)
    (hi : PI X tg iter (rdI c m T W k rs)) (ok : blkC N sc scope own = true) (hsub : (tgN t).all (fun i => decide (i ∈ own.map (·.2))) = true)
    (hg : ∀ Y, BX Y c T W0 N (relS scope sc) (fxB scope) tb → PG Y tg (rdG c m t)) (ht : ∀ Y, BX Y c T W0 N (relS scope sc) (fxB scope) tb → PTs Y ifs (rdTs c m T rifs)) (he : ∀ Y, BX Y c T W0 N (relS scope sc) (fxB scope) tb → PE Y elt (rdE c m T W0 r))
    (hs : ∀ x, foldedSetIterable iter X.env x = pure x := by intro _; rfl) : PS X (.Assign [.Name y py] (.ListComp elt [⟨tg, iter, ifs, 0⟩] scope pos) spos) (rdS c m T W (.asg (.nm i) (.comp (own.map (·.2)) t k rs rifs r))) := by
  obtain ⟨h1, h2, h3⟩ := B.cb.loc (fx := fx) (i := i) (x := y) (by
    unfold locC at hy ⊢
    simp only [Bool.and_false, Bool.or_false, Bool.and_eq_true, Bool.or_eq_true, decide_eq_true_eq] at hy ⊢
    exact ⟨hy.1, .inl hy.2⟩)
  have hyl : X.env.scope.names.lookup y = some .local := by
    unfold locC at hy
    simp only [Bool.and_false, Bool.or_false, Bool.and_eq_true, decide_eq_true_eq] at hy
    rw [B.cb.hs]; exact hy.2
  have okB : BlkOk X.N X.env.scope scope own := by rw [B.cb.hN, B.cb.hs]; exact blkOk_by ok
  exact (ps_setLc B.calm B.cb.ND h1 hyl (sw_true (by rw [B.cb.hs]; exact hkd) hyl hl hn) hi okB (fun s H C cl fp => hg _ (B.blk s H C cl fp)) (fun s H C cl fp => ht _ (B.blk s H C cl fp)) (fun s H C cl fp => he _ (B.blk s H C cl fp)) hs).imp' fun D σ H h => comp_read hsub (asg_read h)
theorem e_comp {elt tg iter : Expr} {own : List (Str × Nat)} {k : SrcK} {t : Tg} (B : BX X c T W N sc fx tb) (hi : PI X tg iter (rdI c m T W k rs)) (ok : blkC N sc scope own = true) (hsub : (tgN t).all (fun i => decide (i ∈ own.map (·.2))) = true)
    (hg : ∀ Y, BX Y c T W0 N (relS scope sc) (fxB scope) tb → PG Y tg (rdG c m t)) (ht : ∀ Y, BX Y c T W0 N (relS scope sc) (fxB scope) tb → PTs Y ifs (rdTs c m T rifs)) (he : ∀ Y, BX Y c T W0 N (relS scope sc) (fxB scope) tb → PE Y elt (rdE c m T W0 r))
    (hs : ∀ x, foldedSetIterable iter X.env x = pure x := by intro _; rfl) : PE X (.ListComp elt [⟨tg, iter, ifs, 0⟩] scope pos) (rdE c m T W (.comp (own.map (·.2)) t k rs rifs r)) := by
  have okB : BlkOk X.N X.env.scope scope own := by rw [B.cb.hN, B.cb.hs]; exact blkOk_by ok
  exact (pe_lc B.calm B.cb.ND hi okB (fun s H C cl fp => hg _ (B.blk s H C cl fp)) (fun s H C cl fp => ht _ (B.blk s H C cl fp)) (fun s H C cl fp => he _ (B.blk s H C cl fp)) hs).imp' fun σ H Q h => comp_read hsub h

/-! ### the plain ones -/
theorem s_exp (he : PE X e (rdE c m T W r)) (hs : swapsWith e none pos.line X.env = pure false := by rfl) : PS X (.Expr e pos) (rdS c m T W (.exp r)) := (ps_expr he hs).imp' fun D σ H ⟨env, Z, F, S, h⟩ => by
  simp only [wpS] at h
  exact ⟨env, Z, F, S, wpE_mono r env (wpE_lk r env h) (fun s e1 h1 x H1 Z1 F1 G E1 S1 t sp gs => h1.2 σ H1 Z1 F1 E1 S1 (Pin.refl _ _)) fun x e h => KsD.exE h.2⟩
theorem s_ret (he : PE X e (rdE c m T W r)) : PS X (.Return (some e) pos) (rdS c m T W (.ret r)) := (ps_ret he).imp' fun D σ H ⟨env, Z, F, S, h⟩ => by
  simp only [wpS] at h
  refine ⟨env, Z, F, S, wpE_mono r env h (fun s e1 h1 x H1 Z1 F1 G E1 S1 t sp gs => ?_) fun x e h => KsD.exE h⟩
  unfold retQ at h1; split at h1
  · exact h1 x σ H1 Z1 F1 G E1 S1 t sp gs
  · exact h1.elim
theorem s_ret0 : PS X (.Return none pos) (rdS c m T W .ret0) := ps_retN.imp' fun D σ H ⟨env, Z, F, S, h⟩ => by
  simp only [wpS] at h
  exact h .non σ H Z F [] (Ext.refl ..) S ⟨rfl, Rs.non .nil⟩ Sep.nil GSub.nil
theorem s_pass : PS X (.Pass pos) (rdS c m T W .pas) := ps_pass.imp' fun D σ H ⟨env, Z, F, S, h⟩ => by
  simp only [wpS] at h
  exact h σ H Z F (Ext.refl ..) S (Pin.refl _ _)
theorem s_if {A B : List Stmt} {qa qb : List RS} (hc : PT X e (rdT c m T W r)) (ha : PSs X A (rdSs c m T W qa)) (hb : PSs X B (rdSs c m T W qb)) : PS X (.If e A B pos) (rdS c m T W (.iff r qa qb)) := (ps_if hc ha hb).imp' fun D σ H ⟨env, Z, F, S, h⟩ => by
  simp only [wpS] at h
  refine ⟨env, Z, F, S, wpE_mono r env (wpE_lk r env h) (fun s e1 h1 => tstQ_mono h1.2 fun k q H1 Z1 F1 E1 S1 => ?_) fun x e h => KsD.exE h.2⟩
  refine iteM q (fun q => ⟨e1, Z1, F1, S1, wpSs_mono qa e1 q (KsD.from E1 h1.1 (Pin.refl _ _))⟩) fun q => ⟨e1, Z1, F1, S1, wpSs_mono qb e1 q (KsD.from E1 h1.1 (Pin.refl _ _))⟩

/-! ### loops -/
theorem s_while {body : List Stmt} {qb : List RS} (hp : PassesOwn (model X.prog X.w) X.A X.env X.xe) (hc : PT X e (rdT c m T W r)) (hb : PSs X body (rdSs c m T W qb)) : PS X (.While e body [] pos) (rdS c m T W (.whl r qb)) := (ps_while hp hc hb).imp' fun D σ H ⟨env, Z, F, S, h⟩ => by
  simp only [wpS] at h
  obtain ⟨I, ⟨m0, h0⟩, h⟩ := h
  refine ⟨fun k σ1 H1 => ∃ e1 Z1 F1, Ext H Z F H1 Z1 F1 ∧ StOk c m H1 Z1 σ1 e1 F1 ∧ Lk env e1 ∧ Pin env σ σ1 ∧ I k e1, ⟨m0, env, Z, F, Ext.refl .., S, Lk.refl _, Pin.refl _ _, h0⟩, fun k σ1 H1 hW => ?_⟩
  obtain ⟨e1, Z1, F1, E1, S1, l1, P1, hI⟩ := hW
  refine ⟨e1, Z1, F1, S1, wpE_mono r e1 (wpE_lk r e1 (h k e1 hI)) (fun s e2 h1 => tstQ_mono h1.2 fun t q H2 Z2 F2 E2 S2 => ?_) fun x e h => fun cls d H' Z' F' E S xo => h.2 cls d σ1 H' Z' F' (E1.trans E) S xo P1⟩
  have l2 := l1.trans h1.1
  refine iteM q (fun q => ?_) fun q => q σ1 H2 Z2 F2 (E1.trans E2) S2 P1
  refine ⟨fun σ3 H3 => ∃ e3 Z3 F3, Ext H Z F H3 Z3 F3 ∧ StOk c m H3 Z3 σ3 e3 F3 ∧ Lk env e3 ∧ Pin env σ σ3 ∧ ∃ m', m' < k ∧ I m' e3, fun σ3 H3 ⟨e3, Z3, F3, a1, a2, a3, a4, m', a5, a6⟩ => ⟨m', a5, e3, Z3, F3, a1, a2, a3, a4, a6⟩, e2, Z2, F2, S2, ?_⟩
  exact wpSs_mono qb e2 (wpSs_lk qb e2 q) ⟨fun e3 hh σ3 H3 Z3 F3 E3 S3 P3 => ⟨e3, Z3, F3, (E1.trans E2).trans E3, S3, l2.trans hh.1, P1.trans l2 P3, hh.2⟩,
    fun s e3 hh x σ3 H3 Z3 F3 G E3 S3 t sp gs => hh.2 x σ3 H3 Z3 F3 G ((E1.trans E2).trans E3) S3 t sp (gs.back (E1.trans E2)), fun x e3 hh cls d σ3 H3 Z3 F3 E3 S3 xo P3 => hh.2 cls d σ3 H3 Z3 F3 ((E1.trans E2).trans E3) S3 xo (P1.trans l2 P3)⟩
theorem for_read {k : SrcK} {t : Tg} {qb : List RS} (h : rdS c m T W (.for_ t k rs qb) D σ H) : tFor (rdI c m T W k rs) (rdG c m t) (rdSs c m T W qb) D σ H := by
  obtain ⟨env, Z, F, S, h⟩ := h
  simp only [wpS] at h
  refine ⟨env, Z, F, S, wpEs_mono rs env (wpEs_lk rs env h) (fun ss e1 h1 => ?_) fun x e h => KsD.exE h.2⟩
  obtain ⟨l1, h1⟩ := h1
  unfold srcQ at h1
  split at h1
  · rename_i zs hz
    refine ⟨zs, hz, h1.1, srcD_mono h1.2 fun ds h2 xs H1 Z1 F1 G J E1 S1 tm sp gs wk => ?_⟩
    have fl := h1.1
    obtain ⟨SL, src0⟩ := lock_start S1 tm sp hz
    let ZG := zadd Z1 G
    have E1' : Ext H Z F H1 ZG F1 := Ext.zone gs E1
    have lw : Lk env (locks e1 ss) := l1.trans (locks_lk ss e1)
    let K := KsD c m W D env σ H Z F
    let Wk : Nat → Nat → L2.St → Hp → Prop := fun i mm σ' H' => i ≤ ds.length ∧ mm = ds.length - i ∧ ∃ (ev : Env') (Z' : Zn) (F' : Fs), Ext H1 ZG F1 H' Z' F' ∧ StOk c m H' Z' σ' ev F' ∧ Lk (locks e1 ss) ev ∧ Pin (locks e1 ss) σ σ' ∧ SrcAts c H' Z' σ' ev xs zs ∧
      forW t (fun e N => wpSs T qb e { K with nx := N }) (ds.drop i) ev fun e2 => K.nx (unlocks e1 e2 ss)
    refine ⟨Wk, ⟨ds.length, Nat.zero_le _, by simp, locks e1 ss, ZG, F1, Ext.refl .., SL, Lk.refl _, Pin.refl _ _, src0, h2⟩, fun i mm σ' H' hW => ?_⟩
    obtain ⟨hi, rfl, ev, Z', F', E', S', l', P', src, hf⟩ := hW
    obtain ⟨go, stop, yld⟩ := wk H' Z' (src.ivs S' fl)
    by_cases hlt : i < ds.length
    · right
      refine ⟨go i hlt, Wk (i + 1) (ds.length - (i + 1)), fun σ2 H2 hw => ⟨_, by omega, hw⟩, fun y H2 hy => ?_⟩
      obtain ⟨gr, d, hd, rd⟩ := yld i y H2 hy hlt
      have S2 : StOk c m H2 Z' σ' ev F' := S'.grow gr
      have E2 : Ext H' Z' F' H2 Z' F' := Ext.grow gr
      have hdrop : ds.drop i = d :: ds.drop (i + 1) := by
        rw [List.drop_eq_getElem_cons (h := hlt)]
        congr 1
        rw [List.getElem?_eq_getElem hlt] at hd
        exact Option.some.inj hd
      rw [hdrop] at hf
      unfold forW at hf
      split at hf
      · rename_i e2 hb
        refine ⟨ev, Z', F', d, S2, rd, e2, hb, fun σ2 F2 E3 S3 P3 o3 => ?_⟩
        have lb : Lk ev e2 := bindT_lk _ _ _ hb
        refine ⟨e2, Z', F2, S3, wpSs_mono qb e2 (wpSs_lk qb e2 hf) ⟨fun e4 hh σ4 H4 Z4 F4 E4 S4 P4 => ?_, fun s e4 hh x σ4 H4 Z4 F4 G4 E4 S4 t4 sp4 gs4 => ?_, fun x e4 hh cls dd σ4 H4 Z4 F4 E4 S4 xo P4 => ?_⟩⟩
        · have l4 : Lk ev e4 := lb.trans hh.1
          have P4' : Pin ev σ' σ4 := P3.trans lb P4
          have E4' := (E2.trans E3).trans E4
          exact ⟨by omega, rfl, e4, Z4, F4, E'.trans E4', S4, l'.trans l4, P'.trans l' P4', src.later S'.zn E4' l4 P4', hh.2⟩
        · exact hh.2 x σ4 H4 Z4 F4 G4 (E1'.trans (E'.trans ((E2.trans E3).trans E4))) S4 t4 sp4 (gs4.back (E1'.trans (E'.trans (E2.trans E3))))
        · exact hh.2 cls dd σ4 H4 Z4 F4 (E1'.trans (E'.trans ((E2.trans E3).trans E4))) S4 xo fun j b n d' q => (P'.trans l' (P3.trans lb P4)) j b n d' (lw _ _ _ _ q)
      · exact hf.elim
    · left
      have hi' : i = ds.length := by omega
      refine ⟨stop i (by omega), ?_⟩
      rw [hi', List.drop_length] at hf
      have hf : K.nx (unlocks e1 ev ss) := hf
      refine hf σ' H' Z' F' (E1'.trans E') (unlock_ok S' l') fun j b n d' q => P' j b n d' (lw _ _ _ _ q)
  · exact h1.elim
theorem s_for {iter tg : Expr} {body : List Stmt} {k : SrcK} {t : Tg} {qb : List RS} (hp : PassesOwn (model X.prog X.w) X.A X.env X.xe) (hc : X.calm = true) (hi : PI X tg iter (rdI c m T W k rs)) (hg : PG X tg (rdG c m t)) (hb : PSs X body (rdSs c m T W qb))
    (hs : ∀ x, foldedSetIterable iter X.env x = pure x := by intro _; rfl) : PS X (.For tg iter body [] pos) (rdS c m T W (.for_ t k rs qb)) := (ps_for hp hc hi hg hb hs).imp' fun D σ H h => for_read h
end
end DL
end
section
set_option Elab.async false
set_option linter.all false
set_option maxRecDepth 100000
set_option maxHeartbeats 3900000
/-! DL15: what writes to a list or a dict. -/
namespace DL
open PySem PySem.Spec L2

def reS : Sl → D → Sl
  | .o n _, d => .o n d
  | .p n _, d => .p n d
  | s, _ => s
section
variable {X : Cx} {c : Cn} {m : Am} {T : Txt} {W : WX} {N : List Str} {sc scope : Scope} {fx : Str → Bool} {tb : Tb} {e a b d : Expr} {es ifs : List Expr} {r ra rb rc : RE} {rs rifs : List RE} {pos p2 p3 p : Pos} {x : Str} {st : Stmt} {sts : List Stmt} {q : RS} {qs : List RS} {D : Ends}
  {σ σ' : L2.St} {H H' : Hp} {Z Z' : Zn} {F F' : Fs} {env env' : Env'}
theorem mod_elim {i : Nat} {f : Nat → DL.D → (DL.D → Prop) → Prop} {Q : Env' → Prop} (h : modQ i env f Q) : ∃ s n d, env[i]? = some s ∧ (s = .o n d ∨ s = .p n d) ∧ f n d fun d' => Q (env.set i (reS s d')) := by
  unfold modQ at h; split at h
  · rename_i n d e; exact ⟨_, n, d, e, .inl rfl, h⟩
  · rename_i n d e; exact ⟨_, n, d, e, .inr rfl, h⟩
  · exact h.elim
/-- the slot's address, its data -/
theorem own_of (S : StOk c m H Z σ env F) {i n : Nat} {d : DL.D} {s : Sl} (e : env[i]? = some s) (hs : s = .o n d ∨ s = .p n d) : ∃ x, σ[i]? = some (some x) ∧ Rep c.K H Z (n + 1) x d (F i) := by
  rcases hs with rfl | rfl
  · exact S.sl i _ e
  · obtain ⟨x, h1, _, r⟩ := S.sl i _ e; exact ⟨x, h1, r⟩
/-- the slot i's object at a is written -/
theorem mod_ok (S : StOk c m H Z σ env F) {i n : Nat} {d d' : DL.D} {s : Sl} (e : env[i]? = some s) (hs : s = .o n d ∨ s = .p n d) {a : Addr} {G1 : List Addr} {o : HO} (ha : a ∈ F i) (sub : ∀ b ∈ G1, b ∈ F i) (hx : σ[i]? = some (some (.ref a)))
    (r : Rep c.K (upd H a o) Z (n + 1) (.ref a) d' G1) : StOk c m (upd H a o) Z σ (env.set i (reS s d')) (fset F i G1) ∧ Ext H Z F (upd H a o) Z (fset F i G1) := by
  have hl : i < env.length := (List.getElem?_eq_some_iff.mp e).1
  have mu := S.muts ha
  have nz := S.zn i a ha
  refine ⟨⟨by rw [List.length_set]; exact S.len, fun j t q => ?_, fun j hj => ?_, fun j k b hjk h1 h2 => ?_, fun j b h1 => ?_, fun b hb q => ?_⟩, ⟨fun b u q k => ?_, fun b hb q => ?_, fun j b h1 => ?_, fun _ h => h, fun _ h => .inl h⟩⟩
  · by_cases hj : j = i
    · subst hj
      have := get_set_same q
      subst this
      rw [fset_same]
      rcases hs with rfl | rfl
      · exact ⟨.ref a, hx, r⟩
      · obtain ⟨y, h1, h2, _⟩ := S.sl j _ e
        rw [hx] at h1; cases h1
        exact ⟨.ref a, hx, h2, r⟩
    · rw [List.getElem?_set_ne (Ne.symm hj)] at q
      rw [fset_ne hj]
      exact (S.sl j t q).ext (fun b hb => upd_ne fun e2 => S.dis j i b hj hb (e2 ▸ ha)) (fun b u q k => by
        rw [upd_ne fun e2 => ?_]; exact q
        subst e2
        rcases k with k | k
        · rw [q] at mu; exact k mu
        · exact nz k) fun _ h => h
  · rw [List.length_set] at hj
    rw [fset_ne (by omega)]; exact S.out j hj
  · have up : ∀ {j}, b ∈ fset F i G1 j → b ∈ F j := fun {j} h => by
      by_cases hj : j = i
      · subst hj; rw [fset_same] at h; exact sub b h
      · rw [fset_ne hj] at h; exact h
    exact S.dis j k b hjk (up h1) (up h2)
  · by_cases hj : j = i
    · subst hj; rw [fset_same] at h1; exact S.zn j b (sub b h1)
    · rw [fset_ne hj] at h1; exact S.zn j b h1
  · by_cases e2 : b = a
    · subst e2; rw [upd_same] at q; cases q
    · rw [upd_ne e2] at q; exact S.zh b hb q
  · rw [upd_ne fun e2 => ?_]; exact q
    subst e2
    rcases k with k | k
    · rw [q] at mu; exact k mu
    · exact k i ha
  · by_cases e2 : b = a
    · subst e2; rw [upd_same] at q; cases q
    · rw [upd_ne e2] at q; exact hb q
  · by_cases hj : j = i
    · subst hj; rw [fset_same] at h1; exact .inl ⟨j, sub b h1⟩
    · rw [fset_ne hj] at h1; exact .inl ⟨j, h1⟩
/-- what is only read is not touched by such a write -/
theorem mod_rs (S : StOk c m H Z σ env F) {i n : Nat} {a : Addr} {o : HO} (ha : a ∈ F i) {vs : List V} {ds : List DL.D} {G : List Addr} (r : Rs c.K H Z n vs ds G) (hG : a ∉ G) : Rs c.K (upd H a o) Z n vs ds G :=
  r.keep (fun b u q k => by
    rw [upd_ne fun e2 => ?_]; exact q
    subst e2
    rcases k with k | k | k
    · have := S.muts ha; rw [q] at this; exact k this
    · exact S.zn i _ ha k
    · exact hG k) fun _ h => h
/-- one item, the last item: what is stored may be shared, or is nothing mutable -/
theorem Rs.one {K : PySem.W.Frag} {n : Nat} {v : V} {d : DL.D} (r : Rep K H Z 0 v d []) (h : match n with | 0 => True | _ + 1 => DL.imm d = true) : Rep K H Z n v d [] := by
  cases n with
  | zero => exact r
  | succ n => exact (Rep.imm r h).2 (n + 1) Z
theorem Rs.appendN {K : PySem.W.Frag} {n : Nat} {vs ws : List V} {ds es : List DL.D} {G : List Addr} (h : Rs K H Z n vs ds G) (r : Rs K H Z n ws es []) : Rs K H Z n (vs ++ ws) (ds ++ es) G := by
  induction h with
  | nil => exact r
  | non _ ih => exact .non (ih r)
  | bl b _ ih => exact .bl b (ih r)
  | int b _ ih => exact .int b (ih r)
  | str b _ ih => exact .str b (ih r)
  | tup e h1 _ dj _ ih => exact .tup e h1 (ih r) dj
  | scr f _ ih => exact .scr f (ih r)
  | l0 e z h1 _ _ ih => exact .l0 e z h1 (ih r)
  | l1 e h1 _ na dj _ ih => exact .l1 e h1 (ih r) na dj
  | k0 e z ek h1 _ _ ih => exact .k0 e z ek h1 (ih r)
  | k1 e ek h1 _ na dj _ ih => exact .k1 e ek h1 (ih r) na dj
  | t0 e z ek h1 _ _ ih => exact .t0 e z ek h1 (ih r)
  | t1 e ek h1 _ na dj _ ih => exact .t1 e ek h1 (ih r) na dj
theorem Dj.sub {A A' B B' : List Addr} (h : Dj A B) (ha : ∀ a ∈ A', a ∈ A) (hb : ∀ b ∈ B', b ∈ B) : Dj A' B' := fun a h1 h2 => h a (ha a h1) (hb a h2)
theorem Rs.setN {K : PySem.W.Frag} {n : Nat} {v : V} {d : DL.D} : ∀ {vs : List V} {ds : List DL.D} {G : List Addr} (j : Nat), Rs K H Z n vs ds G → Rep K H Z n v d [] → ∃ G', (∀ a ∈ G', a ∈ G) ∧ Rs K H Z n (vs.set j v) (ds.set j d) G'
  | [], ds, G, j, h, r => by
    cases ds with
    | nil => exact ⟨G, fun _ h => h, h⟩
    | cons => have := h.length; cases this
  | w :: vs, ds, G, j, h, r => by
    cases ds with
    | nil => have := h.length; cases this
    | cons e ds =>
      obtain ⟨F1, F2, rfl, h1, h2, dj⟩ := h.cons_inv
      cases j with
      | zero => exact ⟨[] ++ F2, fun a ha => List.mem_append_right _ (by simpa using ha), Rs.cons r h2 Dj.nil_l⟩
      | succ j =>
        obtain ⟨G', sub, h3⟩ := Rs.setN j h2 r
        exact ⟨F1 ++ G', fun a ha => (List.mem_append.mp ha).elim (List.mem_append_left _) fun h => List.mem_append_right _ (sub a h), Rs.cons h1 h3 (dj.sub (fun _ h => h) sub)⟩
/-- a value of its own, frozen -/
theorem frz_val {x : V} {s : Sl} {G : List Addr} {d : DL.D} (t : TOk c H Z σ x G s) (h : s.val = some d) : Rep c.K H (zadd Z G) 0 x d [] := by
  cases s with
  | v d => cases h; exact Rs.keep t.2 (fun _ _ e _ => e) fun _ h => .inl h
  | o n d => cases h; exact Rs.freeze t (fun _ h => .inl h) fun _ h => .inr h
  | _ => cases h

/-! ### append, extend -/
theorem okL_val (S : StOk c m H Z σ env F) {i : Nat} (h : okL env i) : ∃ a xs, σ[i]? = some (some (.ref a)) ∧ H a = some (.lst xs) := by
  unfold okL at h
  split at h
  · rename_i n xs e
    obtain ⟨x, h1, r⟩ := S.sl i _ e
    obtain ⟨a, ys, G, rfl, _, h2, _⟩ := r.lst1_inv
    exact ⟨a, ys, h1, h2⟩
  · rename_i n xs e
    obtain ⟨x, h1, _, r⟩ := S.sl i _ e
    obtain ⟨a, ys, G, rfl, _, h2, _⟩ := r.lst1_inv
    exact ⟨a, ys, h1, h2⟩
  · exact h.elim
theorem s_app {i : Nat} {po pc : Pos} (B : CB X c N sc fx) (hv : visC sc N i x = true) (he : PE X e (rdE c m T W r)) (hs : starEach [e] X.env = (false, eval e X.env) :: starEach [] X.env := by rfl)
    (hfew : ((backTo pc (starEach [e] X.env)).all (fun x => !x.1) && (backToKw pc (keywordEach [] X.env)).all (fun x => x.1.isSome)
      && decide (([e] : List Expr).length + ([] : List Keyword).length + (if ([] : List Keyword).isEmpty then 0 else 1) < 30)) = true := by rfl) (hline : (po.endLine == pc.line) = true := by rfl) :
    PS X (.Expr (.Call (.Attribute (.Name x p) "append" po) [e] [] pc) pos) (rdS c m T W (.app i r)) := by
  obtain ⟨v1, v2, v3, v4⟩ := B.vis hv
  refine (ps_expr (pe_bm PySem.F.plainAttrs_list PySem.F.slot_list_append PySem.F.type_list_append mt_append (pe_var v1 v2 v3 v4) (pa_cons he pa_nil hs) rfl hfew hline hs rfl)).imp' fun D σ H ⟨env, Z, F, S, h⟩ => ?_
  simp only [wpS] at h
  obtain ⟨a, xs, h1, h2⟩ := okL_val S h.1
  refine ⟨.ref a, h1, .inl ⟨rfl, xs, .inl (.inl h2)⟩, env, Z, F, S, wpE_mono r env (wpE_lk r env h.2) (fun s e1 hh y H1 Z1 F1 G E1 S1 t sp gs => ?_) fun x e h => KsD.exE h.2⟩
  obtain ⟨s', n, d, q1, q2, q3⟩ := mod_elim hh.2
  unfold appQ at q3
  split at q3
  · rename_i dy ds hy
    obtain ⟨x', g1, g2⟩ := own_of S1 q1 q2
    rw [h1] at g1; cases g1
    obtain ⟨a', ys, G1, ea, eF, g3, g4, g5⟩ := g2.lst1_inv
    cases ea
    have S2 : StOk c m H1 (zadd Z1 G) σ e1 F1 := S1.zone sp.f t.there
    have E2 : Ext H Z F H1 (zadd Z1 G) F1 := Ext.zone gs E1
    have ha : a ∈ F1 i := by rw [eF]; exact List.mem_cons_self
    refine ⟨a, ys, y, rfl, rfl, g3, by rw [g4.length]; exact q3.2.1, ?_⟩
    have ry := mod_rs (o := .lst (ys ++ [y])) S2 ha (frz_val t hy) (by simp)
    have g4' : Rs c.K (upd H1 a (.lst (ys ++ [y]))) (zadd Z1 G) n ys ds G1 := mod_rs S2 ha (g4.keep (fun _ _ e _ => e) fun _ h => .inl h) g5
    have rn := Rep.mk_lst1 upd_same (g4'.appendN (Rs.one ry q3.1)) g5
    obtain ⟨S3, E3⟩ := mod_ok S2 q1 q2 ha (fun b hb => by rw [eF]; exact hb) h1 rn
    exact q3.2.2 σ _ _ _ (E2.trans E3) S3 (Pin.refl _ _)
  · exact q3.elim
theorem s_ext {i : Nat} {po pc : Pos} (B : CB X c N sc fx) (hv : visC sc N i x = true) (he : PE X e (rdE c m T W r)) (hs : starEach [e] X.env = (false, eval e X.env) :: starEach [] X.env := by rfl)
    (hfew : ((backTo pc (starEach [e] X.env)).all (fun x => !x.1) && (backToKw pc (keywordEach [] X.env)).all (fun x => x.1.isSome)
      && decide (([e] : List Expr).length + ([] : List Keyword).length + (if ([] : List Keyword).isEmpty then 0 else 1) < 30)) = true := by rfl) (hline : (po.endLine == pc.line) = true := by rfl) :
    PS X (.Expr (.Call (.Attribute (.Name x p) "extend" po) [e] [] pc) pos) (rdS c m T W (.ext i r)) := by
  obtain ⟨v1, v2, v3, v4⟩ := B.vis hv
  refine (ps_expr (pe_bm PySem.F.plainAttrs_list PySem.F.slot_list_extend PySem.F.type_list_extend mt_extend (pe_var v1 v2 v3 v4) (pa_cons he pa_nil hs) rfl hfew hline hs rfl)).imp' fun D σ H ⟨env, Z, F, S, h⟩ => ?_
  simp only [wpS] at h
  obtain ⟨a, xs, h1, h2⟩ := okL_val S h.1
  refine ⟨.ref a, h1, .inl ⟨rfl, xs, .inl (.inl h2)⟩, env, Z, F, S, wpE_mono r env (wpE_lk r env h.2) (fun s e1 hh y H1 Z1 F1 G E1 S1 t sp gs => ?_) fun x e h => KsD.exE h.2⟩
  obtain ⟨s', n, d, q1, q2, q3⟩ := mod_elim hh.2
  unfold extQ at q3
  split at q3
  · rename_i dys ds hy
    obtain ⟨x', g1, g2⟩ := own_of S1 q1 q2
    rw [h1] at g1; cases g1
    obtain ⟨a', ys, G1, ea, eF, g3, g4, g5⟩ := g2.lst1_inv
    cases ea
    have S2 : StOk c m H1 (zadd Z1 G) σ e1 F1 := S1.zone sp.f t.there
    have E2 : Ext H Z F H1 (zadd Z1 G) F1 := Ext.zone gs E1
    have ha : a ∈ F1 i := by rw [eF]; exact List.mem_cons_self
    obtain ⟨b, zs, rfl, k1, _, k2⟩ := (frz_val t hy).lst0_inv
    refine ⟨a, b, ys, zs, rfl, rfl, g3, k1, by rw [g4.length, k2.length]; exact q3.2.1, ?_⟩
    have ry : Rs c.K (upd H1 a (.lst (ys ++ zs))) (zadd Z1 G) 0 zs dys [] := mod_rs S2 ha k2 (by simp)
    have ry' : Rs c.K (upd H1 a (.lst (ys ++ zs))) (zadd Z1 G) n zs dys [] := by
      cases n with
      | zero => exact ry
      | succ n => exact (Rs.imm ry q3.1).2 _ _
    have g4' : Rs c.K (upd H1 a (.lst (ys ++ zs))) (zadd Z1 G) n ys ds G1 := mod_rs S2 ha (g4.keep (fun _ _ e _ => e) fun _ h => .inl h) g5
    have rn := Rep.mk_lst1 upd_same (g4'.appendN ry') g5
    obtain ⟨S3, E3⟩ := mod_ok S2 q1 q2 ha (fun b hb => by rw [eF]; exact hb) h1 rn
    exact q3.2.2 σ _ _ _ (E2.trans E3) S3 (Pin.refl _ _)
  · exact q3.elim

/-! ### o[i] = v -/
def rSetX : TSet := fun o i v H Q => rSetL o i v H Q ∨ rSetD o i v H Q
theorem set_any (hu : X.A.units + 1 < cLine) : PSet X rSetX := by
  intro pn0 s σ H o i v ov iv u Q I ro ri rv h
  rcases h with h | h
  · exact set_list pn0 s σ H o i v ov iv u Q I ro ri rv h
  · exact set_dict hu pn0 s σ H o i v ov iv u Q I ro ri rv h
theorem putK_put {κ : Type} [DecidableEq κ] {n : Nat} {K : PySem.W.Frag} {k : κ} {v : V} {d : DL.D} {G : List Addr} {ps : List (κ × V)} {kvs : List (κ × DL.D)} (ek : ps.map (·.1) = kvs.map (·.1)) (h : Rs K H Z n (ps.map (·.2)) (kvs.map (·.2)) G) (r : Rep K H Z n v d []) :
    ∃ G', (∀ a ∈ G', a ∈ G) ∧ (putK ps k v).map (·.1) = (putD kvs k d).map (·.1) ∧ Rs K H Z n ((putK ps k v).map (·.2)) ((putD kvs k d).map (·.2)) G' := by
  have hany : (ps.any fun kv => decide (kv.1 = k)) = (kvs.any fun kv => decide (kv.1 = k)) := by
    have : ∀ {β : Type} (l : List (κ × β)), (l.any fun kv => decide (kv.1 = k)) = (l.map (·.1)).any fun q => decide (q = k) := fun l => by rw [List.any_map]; rfl
    rw [this, this, ek]
  unfold putK putD
  rw [hany]
  split
  · -- the value is replaced wherever the key is
    have keys : ∀ {β : Type} (l : List (κ × β)) (b : β), (l.map fun kv => if kv.1 = k then (kv.1, b) else kv).map (·.1) = l.map (·.1) := fun l b => by
      rw [List.map_map]
      exact List.map_congr_left fun p _ => by simp only [Function.comp]; split <;> rfl
    have go : ∀ {ps : List (κ × V)} {kvs : List (κ × DL.D)} {G : List Addr}, ps.map (·.1) = kvs.map (·.1) → Rs K H Z n (ps.map (·.2)) (kvs.map (·.2)) G →
        ∃ G', (∀ a ∈ G', a ∈ G) ∧ Rs K H Z n ((ps.map fun kv => if kv.1 = k then (kv.1, v) else kv).map (·.2)) ((kvs.map fun kv => if kv.1 = k then (kv.1, d) else kv).map (·.2)) G' := by
      intro ps
      induction ps with
      | nil =>
        intro kvs G ek h
        cases kvs with
        | nil => exact ⟨G, fun _ h => h, h⟩
        | cons => simp at ek
      | cons p ps ih =>
        intro kvs G ek h
        cases kvs with
        | nil => simp at ek
        | cons kv kvs =>
          simp only [List.map_cons, List.cons.injEq] at ek h
          obtain ⟨F1, F2, rfl, h1, h2, dj⟩ := h.cons_inv
          obtain ⟨G', sub, h3⟩ := ih ek.2 h2
          simp only [List.map_cons]
          by_cases hk : p.1 = k
          · rw [if_pos hk, if_pos (by rw [← ek.1]; exact hk)]
            exact ⟨[] ++ G', fun a ha => List.mem_append_right _ (sub a (by simpa using ha)), Rs.cons r h3 Dj.nil_l⟩
          · rw [if_neg hk, if_neg (by rw [← ek.1]; exact hk)]
            exact ⟨F1 ++ G', fun a ha => (List.mem_append.mp ha).elim (List.mem_append_left _) fun h => List.mem_append_right _ (sub a h), Rs.cons h1 h3 (dj.sub (fun _ h => h) sub)⟩
    obtain ⟨G', sub, h3⟩ := go ek h
    exact ⟨G', sub, by rw [keys, keys, ek], h3⟩
  · refine ⟨G, fun _ h => h, by simp [ek], ?_⟩
    rw [List.map_append, List.map_append]
    exact h.appendN r
theorem keyOf_rep {x : V} {d : DL.D} {k : Key} (h : Rep c.K H Z 0 x d []) (e : keyOf d = some k) : x = kV k := keyOf_val (IV.of0 h) e
theorem s_setx {i : Nat} {po : Pos} (B : CB X c N sc fx) (hv : visC sc N i x = true) (he : PE X e (rdE c m T W r)) (hi : PE X a (rdE c m T W ra)) (hs : swapsWithSole [.Subscript (.Name x p) a po] e pos.line X.env = pure false := by rfl)
    (hw : swappedStores [.Subscript (.Name x p) a po] e X.env = pure none := by rfl) (h1 : (assignEach [.Subscript (.Name x p) a po] X.env).map (·.2) = [assign (.Subscript (.Name x p) a po) X.env] := by rfl)
    (ha : ∀ v, assign (.Subscript (.Name x p) a po) X.env v = (do
      let ov ← holding [v] (eval (.Name x p) X.env)
      let iv ← holding [v, ov] (eval a X.env)
      standAt po
      holding [v, ov, iv] (setItem ov iv v); release [v, ov, iv] []) := by intro _; rfl) : PS X (.Assign [.Subscript (.Name x p) a po] e pos) (rdS c m T W (.setx i ra r)) := by
  obtain ⟨v1, v2, v3, v4⟩ := B.vis hv
  refine (ps_asg he (pg_sub (pe_var v1 v2 v3 v4) hi (set_any (by have := B.hu; omega)) ha) hs hw h1).imp' fun D σ H ⟨env, Z, F, S, h⟩ => ?_
  simp only [wpS] at h
  obtain ⟨xo, hxo⟩ := okPk_val S h.1
  refine ⟨env, Z, F, S, wpE_mono r env (wpE_lk r env h.2) (fun s e1 hh y H1 Z1 F1 G E1 S1 t sp gs => ?_) fun x e h => KsD.exE h.2⟩
  have key := wpE_lk ra e1 hh.2
  · refine ⟨xo, hxo, e1, Z1, F1, S1, wpE_mono ra e1 key (fun ti e2 hi2 w H2 Z2 F2 G2 E2 S2 t2 sp2 gs2 => ?_) fun x e h => fun cls d H' Z' F' E S xo => h.2 cls d σ H' Z' F' (E1.trans E) S xo (Pin.refl _ _)⟩
    have h3 := hi2.2
    split at h3
    · rename_i z hz
      obtain ⟨s', n, d, q1, q2, q3⟩ := mod_elim h3.2
      have S3 : StOk c m H2 (zadd Z2 (G ++ G2)) σ e2 F2 := S2.zone (Sep.both (sp.ext t.there E2) sp2).f fun b hb => (List.mem_append.mp hb).elim (fun h => E2.dom b (t.there b h)) (t2.there b)
      have E3 : Ext H Z F H2 (zadd Z2 (G ++ G2)) F2 := Ext.zone (gs.append (gs2.back E1)) (E1.trans E2)
      have up : ∀ {G' : List Addr} {n : Nat} {vs : List V} {ds : List DL.D} {B : List Addr}, (∀ b ∈ G', b ∈ G ++ G2) → Rs c.K H2 (zadd Z2 G') n vs ds B → Rs c.K H2 (zadd Z2 (G ++ G2)) n vs ds B := fun hs r => r.keep (fun _ _ e _ => e) fun b h => h.imp id (hs b)
      -- the index
      have rz : ∃ dz, z = .fr dz ∧ Rep c.K H2 (zadd Z2 (G ++ G2)) 0 w dz [] := by
        cases z with
        | ow n d => cases h3.1
        | fr dz => exact ⟨dz, rfl, Vw.of S2 t2 (fun b hb => List.mem_append_right _ hb) hz⟩
      obtain ⟨dz, rfl, rw'⟩ := rz
      obtain ⟨xo', g1, g2⟩ := own_of S3 q1 q2
      rw [hxo] at g1; cases g1
      unfold setxQ at q3
      split at q3
      · exact q3.elim
      · rename_i dx hdx
        have rx : Rep c.K H2 (zadd Z2 (G ++ G2)) 0 y dx [] := up (fun b hb => List.mem_append_left _ hb) (frz_val (t.ext sp S1.zn E2) hdx)
        obtain ⟨q4, q5⟩ := q3
        dsimp only [Rz.dat] at q5
        split at q5
        · rename_i ds ix
          obtain ⟨j, j1, j2⟩ := q5
          obtain ⟨a', ys, G1, rfl, eF, g3, g4, g5⟩ := g2.lst1_inv
          have ha : a' ∈ F2 i := by rw [eF]; exact List.mem_cons_self
          have ew := (Rep.int_inv rw').1
          subst ew
          refine .inl ⟨a', ys, ix, j, rfl, rfl, g3, by rw [g4.length]; exact j1, ?_⟩
          have g4' : Rs c.K (upd H2 a' (.lst (ys.set j y))) (zadd Z2 (G ++ G2)) n ys ds G1 := mod_rs S3 ha g4 g5
          obtain ⟨G', sub, h5⟩ := Rs.setN j g4' (Rs.one (mod_rs S3 ha rx (by simp)) q4)
          obtain ⟨S4, E4⟩ := mod_ok S3 q1 q2 ha (G1 := a' :: G') (fun b hb => by rw [eF]; exact (List.mem_cons.mp hb).elim (fun e => e ▸ List.mem_cons_self) fun h => List.mem_cons_of_mem _ (sub b h)) hxo (Rep.mk_lst1 upd_same h5 fun h => g5 (sub _ h))
          exact j2 σ _ _ _ (E3.trans E4) S4 (Pin.refl _ _)
        · rename_i kvs
          obtain ⟨k', j1, jl, j2⟩ := q5
          obtain ⟨a', ps, G1, rfl, eF, g3, gk, g4, g5⟩ := g2.dK1_inv
          have ha : a' ∈ F2 i := by rw [eF]; exact List.mem_cons_self
          have ew := keyOf_rep rw' j1
          subst ew
          refine .inr ⟨a', _, rfl, DPut.k g3 (by have := congrArg List.length gk; simp at this; omega), ?_⟩
          have g4' : Rs c.K (upd H2 a' (.dK (putK ps k' y))) (zadd Z2 (G ++ G2)) n (ps.map (·.2)) (kvs.map (·.2)) G1 := mod_rs S3 ha g4 g5
          obtain ⟨G', sub, ek, h5⟩ := putK_put (k := k') gk g4' (Rs.one (mod_rs S3 ha rx (by simp)) q4)
          obtain ⟨S4, E4⟩ := mod_ok S3 q1 q2 ha (G1 := a' :: G') (fun b hb => by rw [eF]; exact (List.mem_cons.mp hb).elim (fun e => e ▸ List.mem_cons_self) fun h => List.mem_cons_of_mem _ (sub b h)) hxo (Rep.mk_dK1 upd_same ek h5 fun h => g5 (sub _ h))
          exact j2 σ _ _ _ (E3.trans E4) S4 (Pin.refl _ _)
        · rename_i kvs k
          obtain ⟨k', j1, jl, j2⟩ := q5
          obtain ⟨a', ps, G1, rfl, eF, g3, gk, g4, g5⟩ := g2.dT1_inv
          have ha : a' ∈ F2 i := by rw [eF]; exact List.mem_cons_self
          obtain ⟨bt, ws, rfl, t1, t3⟩ := rw'.tup_inv
          have ew := keysOf_val t3 j1
          subst ew
          refine .inr ⟨a', _, rfl, DPut.t g3 t1 (by have := congrArg List.length gk; simp at this; omega), ?_⟩
          have g4' : Rs c.K (upd H2 a' (.dT (putK ps k' y))) (zadd Z2 (G ++ G2)) n (ps.map (·.2)) (kvs.map (·.2)) G1 := mod_rs S3 ha g4 g5
          obtain ⟨G', sub, ek, h5⟩ := putK_put (k := k') gk g4' (Rs.one (mod_rs S3 ha rx (by simp)) q4)
          obtain ⟨S4, E4⟩ := mod_ok S3 q1 q2 ha (G1 := a' :: G') (fun b hb => by rw [eF]; exact (List.mem_cons.mp hb).elim (fun e => e ▸ List.mem_cons_self) fun h => List.mem_cons_of_mem _ (sub b h)) hxo (Rep.mk_dT1 upd_same ek h5 fun h => g5 (sub _ h))
          exact j2 σ _ _ _ (E3.trans E4) S4 (Pin.refl _ _)
        · exact q5.elim
    · exact h3.elim
end
end DL
end
section
set_option Elab.async false
set_option linter.all false
set_option maxRecDepth 100000
set_option maxHeartbeats 3900000
/-! DL16: a def by its body; the law's end. -/
namespace DL
open PySem PySem.Spec L2

/-- what of the slots comes back behind a def -/
def outS : Sl → Sl
  | .p n d => .p n d
  | .w true n d => .p n d
  | _ => .no
def outs (np : Nat) (env : Env') : List Sl := (List.range np).map fun i => match env[i]? with
  | some s => outS s
  | none => .no
/-- a def's own wp: np parameters, nl further names -/
def ctrOf (T : Txt) (np nl : Nat) (body : List RS) : Ctr where
  run := fun ss Q E => ss.length = np ∧ wpSs T body (ss ++ List.replicate nl .no) ⟨fun e => Q (.v .non) (outs np e), fun s e => s.val.isSome = true ∧ Q s (outs np e), fun x e => E x (outs np e)⟩
  mono := fun {ss Q Q' E E'} h hq he => ⟨h.1, wpSs_mono body _ h.2 (Ks.Le.mk (fun _ q => hq _ _ q) (fun _ _ (q : _ ∧ _) => ⟨q.1, hq _ _ q.2⟩) fun _ _ q => he _ _ q)⟩
/-- a promise that asks more -/
def Ctr.Le (C C' : Ctr) : Prop := ∀ ss Q E, C.run ss Q E → C'.run ss Q E
section
variable {P : Program} {w : World} {K : PySem.W.Frag} {mg : Str → Option Value} {base : Heap} {c : Cn}
theorem FnG.imp {k : Nat} {f : Addr} {fd : FuncData} {ps : List Str} {sp sp' : Sp} (F : FnG P w K mg base k f fd ps sp) (h : ∀ vs H Q E, sp' vs H Q E → sp vs H Q E) : FnG P w K mg base k f fd ps sp' :=
  ⟨fun vs H Q E q => F.len vs H Q E (h _ _ _ _ q), fun A outer s H args us vs Q E hg hr e0 hb r q => F.run A outer s H args us vs Q E hg hr e0 hb r (h _ _ _ _ q)⟩
theorem spC_le {C C' : Ctr} {np : Nat} (h : C.Le C') {vs : List V} {H : Hp} {Q : VK} {E : XK} (q : spC c C np vs H Q E) : spC c C' np vs H Q E := by
  obtain ⟨hl, Z, ss, F, S, q⟩ := q
  exact ⟨hl, Z, ss, F, S, h _ _ _ q⟩
theorem get_append_left' {α : Type} {xs ys : List α} {i : Nat} (h : i < xs.length) : (xs ++ ys)[i]? = xs[i]? := by
  rw [List.getElem?_append_left h]
/-- the state at a def's start -/
theorem start_ok {H : Hp} {Z : Zn} {F : Fs} {vs : List V} {ss : List Sl} {N : List Str} (S : StOk c (am0 vs) H Z (vs.map some) ss F) (hl : vs.length ≤ N.length) : StOk c (am0 vs) H Z (L2.start N vs) (ss ++ List.replicate (N.length - vs.length) .no) F where
  len := by
    have h1 := S.len
    unfold L2.start
    simp only [List.length_append, List.length_replicate, List.length_map] at h1 ⊢
    omega
  sl := fun i s e => by
    have h1 := S.len
    rw [List.length_map] at h1
    by_cases hi : i < ss.length
    · rw [List.getElem?_append_left hi] at e
      refine (S.sl i s e).stay ?_
      unfold L2.start
      rw [List.getElem?_append_left (by simp; omega)]
    · rw [List.getElem?_append_right (by omega), List.getElem?_replicate] at e
      split at e
      · cases e
        exact S.out i (by omega)
      · cases e
  out := fun i hi => S.out i (by rw [List.length_append] at hi; omega)
  dis := S.dis
  zn := S.zn
  zh := S.zh
/-- .. and behind it -/
theorem outs_ok {H : Hp} {Z : Zn} {F : Fs} {vs : List V} {env : Env'} {σ : L2.St} (S : StOk c (am0 vs) H Z σ env F) : ∃ F', StOk c (am0 vs) H Z (vs.map some) (outs vs.length env) F' ∧ ∀ i a, a ∈ F' i → a ∈ F i := by
  let keep : Nat → Bool := fun i => decide (i < vs.length) && (match env[i]? with | some (.p _ _) => true | some (.w true _ _) => true | _ => false)
  let F' : Fs := fun i => if keep i = true then F i else []
  have sub : ∀ i a, a ∈ F' i → a ∈ F i := fun i a h => by
    show a ∈ F i
    have h : a ∈ (if keep i = true then F i else []) := h
    split at h
    · exact h
    · cases h
  refine ⟨F', ⟨?_, fun i s e => ?_, fun i hi => ?_, fun i j a hij h1 h2 => S.dis i j a hij (sub i a h1) (sub j a h2), fun i a h => S.zn i a (sub i a h), S.zh⟩, sub⟩
  · simp [outs]
  · have hi : i < vs.length := by  -- so
      have := (List.getElem?_eq_some_iff.mp e).1
      simp [outs] at this; omega
    have e : (match env[i]? with | some s => outS s | none => Sl.no) = s := by
      unfold outs at e
      rw [List.getElem?_map, List.getElem?_range hi] at e
      exact Option.some.inj e
    cases q : env[i]? with
    | none =>
      rw [q] at e
      subst e
      show (if keep i = true then F i else []) = []
      rw [if_neg]
      show ¬ ((decide (i < vs.length) && (match env[i]? with | some (.p _ _) => true | some (.w true _ _) => true | _ => false)) = true)
      rw [q]; simp
    | some t =>
      rw [q] at e
      have e : outS t = s := e
      have no : keep i = false → s = .no → SlOk c (am0 vs) H Z (vs.map some) i (F' i) s := fun hk hs => by
        subst hs
        show F' i = []
        show (if keep i = true then F i else []) = []
        rw [hk]; rfl
      have pp : ∀ n d, t = .p n d ∨ t = .w true n d → keep i = true ∧ s = .p n d := fun n d h => by
        have hk : keep i = true := by
          show (decide (i < vs.length) && _) = true
          rw [q]
          rcases h with rfl | rfl <;> simp [hi]
        rcases h with rfl | rfl
        · exact ⟨hk, e.symm⟩
        · exact ⟨hk, e.symm⟩
      have yes : ∀ n d x, keep i = true → s = .p n d → vs[i]? = some x → Rep c.K H Z (n + 1) x d (F i) → SlOk c (am0 vs) H Z (vs.map some) i (F' i) s := fun n d x hk hs hv r => by
        subst hs
        refine ⟨x, by rw [List.getElem?_map, hv]; rfl, hv, ?_⟩
        show Rep c.K H Z (n + 1) x d (if keep i = true then F i else [])
        rw [hk]; exact r
      have sl := S.sl i t q
      cases t with
      | p n d =>
        obtain ⟨hk, hs⟩ := pp n d (.inl rfl)
        obtain ⟨x, _, h2, r⟩ := sl
        exact yes n d x hk hs h2 r
      | w b n d =>
        cases b with
        | true =>
          obtain ⟨hk, hs⟩ := pp n d (.inr rfl)
          obtain ⟨x, _, h2, r⟩ := sl
          exact yes n d x hk hs (h2 rfl) r
        | false => exact no (by show (decide (i < vs.length) && _) = false; rw [q]; simp) e.symm
      | no => exact no (by show (decide (i < vs.length) && _) = false; rw [q]; simp) e.symm
      | v d => exact no (by show (decide (i < vs.length) && _) = false; rw [q]; simp) e.symm
      | o n d => exact no (by show (decide (i < vs.length) && _) = false; rw [q]; simp) e.symm
      | q j => exact no (by show (decide (i < vs.length) && _) = false; rw [q]; simp) e.symm
      | x ex => exact no (by show (decide (i < vs.length) && _) = false; rw [q]; simp) e.symm
  · show (if keep i = true then F i else []) = []
    rw [if_neg]
    intro hk
    have : keep i = true := hk
    have hk2 : (decide (i < vs.length) && (match env[i]? with | some (.p _ _) => true | some (.w true _ _) => true | _ => false)) = true := this
    rw [Bool.and_eq_true] at hk2
    have := of_decide_eq_true hk2.1
    simp [outs] at hi; omega
theorem ext_sub {H H' : Hp} {Z Z' : Zn} {F F1 F2 : Fs} (E : Ext H Z F H' Z' F1) (sub : ∀ i a, a ∈ F2 i → a ∈ F1 i) : Ext H Z F H' Z' F2 where
  keep := E.keep
  dom := E.dom
  fsub := fun i a h => E.fsub i a (sub i a h)
  zsub := E.zsub
  znew := E.znew
/-- the wish about exceptions of a def's body -/
abbrev WE0 (E : XK) : WX := fun cls d _ H => E cls d H
/-- a def keeps the promise that its body keeps -/
theorem fnG_of {T : Txt} {k np : Nat} {f : Addr} {x : Str} {st : Stmt} {fd : FuncData} {N ps : List Str} {body : List RS} (Fn : Fun K x x st f fd) (S : FnScope N ps (defScope st)) (hps : ps.length = np)
    (hbody : ∀ (cdv : Value) (A : Around) (outer : List Env) (s : Shared) (H : Hp) (vs : List V) (E : XK), A.guards = some [] → Room k (A.deeper (PyProof.Rows.envOfC x (defScope st) s.heap.objs.size f cdv)) →
      PSs (cxOf (L2.CX P w) P w K mg base N x (defScope st) f cdv A outer s H E) (defBody st) (rdSs c (am0 vs) T (WE0 E) body)) : FnG P w K mg base (k + 1) f fd ps (spC c (ctrOf T np (N.length - np) body) np) := by
  obtain ⟨oc, od, kV, doc, pm, an, cdv, ct, osl, rfl, lk, hcd⟩ := Fn.ex
  have few : np ≤ N.length := by
    have e := congrArg List.length S.pre
    rw [List.length_take, hps] at e
    omega
  refine ⟨fun _ _ _ _ q => q.1.trans hps.symm, fun A outer s H args us vs Q E hg hr e0 hb r q => ?_⟩
  obtain ⟨lenV, Z, ss, F, S0, _, wp⟩ := q
  have here : ∀ b o, base.get? b = some o → s.heap.get? b = some o := fun b o e => (e0.bs b o e).1
  have inK : K.In s.heap := e0.mod.kin.keeps here
  -- the parameters: locals, or cells
  have par : ∀ y ∈ ps.zip us, (defScope st).names.lookup y.1 = some .local ∨ ((defScope st).names.lookup y.1 = some .cell ∧ ((cellsFrom (s.heap.objs.size + 1) (defScope st).names []).lookup y.1).isSome = true) := by
    rintro ⟨n, v⟩ hy
    exact (S.par n (List.of_mem_zip hy).1).imp id fun e => ⟨e, PySem.W.cellsFrom_some _ _ _ (.inl e)⟩
  refine codeAny_call_function (Room.depth hr) (inK _ _ lk) rfl S.co S.gen rfl (PySem.W.codeRec_of inK hcd) (hb _ _ _ _ (wpAny_newFunctionEnv_cells S.kind par fun env he s1 inC => ?_))
  subst he
  refine ⟨(e0.mod.nolimit.keeps here).keeps inC.toInCall.keep, codeAny_func ?_⟩
  have I0 := inv_start (CX := L2.CX P w) (P := P) (w := w) (E := E) S (Room.hd hr) e0 (lenV.trans hps.symm) r inC
  have S1 := start_ok S0 (N := N) (by omega)
  have body0 := hbody cdv A outer s H vs E hg (hr.deeper _)
  -- what lies behind an end of the body
  have back : ∀ {σ' : L2.St} {e' : Env'} {H' : Hp} {Z' : Zn} {F' : Fs}, StOk c (am0 vs) H' Z' σ' e' F' → ∃ F2, StOk c (am0 vs) H' Z' (vs.map some) (outs np e') F2 ∧ ∀ i a, a ∈ F2 i → a ∈ F' i := fun {σ' e' H' Z' F'} S' => by
    rw [← lenV]
    exact outs_ok S'
  have sep : ∀ {Z' : Zn} {F' F2 : Fs} {G : List Addr}, Sep Z' F' G → (∀ i a, a ∈ F2 i → a ∈ F' i) → Sep Z' F2 G := fun {Z' F' F2 G} sp sub => ⟨sp.z, fun a ha i hi => sp.f a ha i (sub i a hi)⟩
  have own : ∀ {x : V} {s : Sl} {σ' : L2.St} {H' : Hp} {Z' : Zn} {G : List Addr}, (∃ d, s.val = some d) → TOk c H' Z' σ' x G s → TOk c H' Z' [] x G s := fun {x s σ' H' Z' G} hv t => by
    obtain ⟨d, hv⟩ := hv
    cases s with
    | v d => exact t
    | o n d => exact t
    | _ => cases hv
  let D : Ends := { nx := fun _ H' => Q .non H', rt := Q }
  have start0 : rdSs c (am0 vs) T (WE0 E) body D (L2.start N vs) H := by
    refine ⟨_, Z, F, S1, ?_⟩
    rw [lenV]
    refine wpSs_mono body _ wp ⟨fun e hq σ' H' Z' F' E' S' _ => ?_, fun s e hq x σ' H' Z' F' G E' S' t sp gs => ?_, fun x e hq cls d σ' H' Z' F' E' S' xo _ => ?_⟩
    · obtain ⟨F2, S2, sub⟩ := back S'
      exact hq .non H' Z' F2 [] (ext_sub E' sub) S2 ⟨rfl, Rs.non .nil⟩ Sep.nil GSub.nil
    · obtain ⟨F2, S2, sub⟩ := back S'
      exact hq.2 x H' Z' F2 G (ext_sub E' sub) S2 (own (Option.isSome_iff_exists.mp hq.1) t) (sep sp sub) gs
    · obtain ⟨F2, S2, sub⟩ := back S'
      exact hq cls d H' Z' F2 (ext_sub E' sub) S2 xo
  refine wpAny_mono (body0.run [] s1 (L2.start N vs) H D I0 start0) (fun fl s' hs => ?_) fun _ _ hs => hs
  cases fl with
  | next =>
    obtain ⟨σ', H', J, q⟩ := hs
    exact ⟨.non, H', J.os, J.bare, J.base, J.hok, rfl, q⟩
  | ret u =>
    obtain ⟨v, σ', H', J, rv, q⟩ := hs  -- so
    exact ⟨v, H', J.os, J.bare, J.base, J.hok, rv, q⟩
  | brk =>
    obtain ⟨_, _, _, q⟩ := hs
    cases q
  | cont =>
    obtain ⟨_, _, _, q⟩ := hs
    cases q
end
end DL
end
section
set_option Elab.async false
set_option linter.all false
set_option maxRecDepth 100000
set_option maxHeartbeats 3900000
/-! DL17: several at once, dicts; the module's facts; nodes in short. -/
namespace DL
open PySem PySem.Spec L2

section
variable {X : Cx} {c : Cn} {m : Am} {T : Txt} {W : WX} {N : List Str} {sc scope : Scope} {fx : Str → Bool} {tb : Tb} {e a b d : Expr} {es ifs : List Expr} {r ra rb rc : RE} {rs rifs : List RE} {pos p2 p3 p : Pos} {x y : Str} {D : Ends}
  {σ σ' : L2.St} {H H' : Hp} {Z Z' : Zn} {F F' : Fs} {env env' : Env'}
/-- {} -/
theorem e_dK0 : PE X (.Dict [] [] pos) (rdE c m T W (.prim .dK0 [])) := pe_dnewK.imp' fun σ H Q h => by
  have h1 := prim_read (rs := []) (R := fun xs H1 => xs = [] → rn c .dK0 [] H1 Q) rfl (fun xs H h e => by subst e; exact h) h
  obtain ⟨Z, ds, h2, h3⟩ := (h1 : ([] : List V) = [] → rn c .dK0 [] H Q) rfl
  cases h2
  intro p hp
  have h3 : Res c H Z .dK0 Q (.dK []) := h3
  exact h3.dK (ps := []) (kvs := []) rfl .nil hp
theorem e_dT0 : PE X (.Dict [] [] pos) (rdE c m T W (.prim .dT0 [])) := pe_dnewT.imp' fun σ H Q h => by
  have h1 := prim_read (rs := []) (R := fun xs H1 => xs = [] → rn c .dT0 [] H1 Q) rfl (fun xs H h e => by subst e; exact h) h
  obtain ⟨Z, ds, h2, h3⟩ := (h1 : ([] : List V) = [] → rn c .dT0 [] H Q) rfl
  cases h2
  intro p hp
  have h3 : Res c H Z .dT0 Q (.dT []) := h3
  exact h3.dT (ps := []) (kvs := []) rfl .nil hp
/-! ### a, b = x, y -/
theorem put_val {H : Hp} {Z : Zn} {σ : L2.St} {env : Env'} {F : Fs} {i : Nat} {x : V} {s : Sl} {d : DL.D} {G : List Addr} (S : StOk c m H Z σ env F) (hi : i < env.length) (t : TOk c H Z σ x G s) (sp : Sep Z F G) (hd : s.val = some d) : StOk c m H Z (σ.set i (some x)) (env.set i s) (fset F i G) := by
  have hσ : i < σ.length := by rw [← S.len]; exact hi
  refine S.put hi sp ?_
  cases s with
  | v d => exact ⟨t.1, x, by simp [hσ], t.2⟩
  | o n d => exact ⟨x, by simp [hσ], t⟩
  | _ => cases hd
theorem val_any {H : Hp} {Z : Zn} {σ σ' : L2.St} {x : V} {s : Sl} {d : DL.D} {G : List Addr} (t : TOk c H Z σ x G s) (hd : s.val = some d) : TOk c H Z σ' x G s := by
  cases s with
  | v d => exact t
  | o n d => exact t
  | _ => cases hd
/-- stored one by one -/
theorem setAll_ok {H : Hp} {Z : Zn} : ∀ {is : List Nat} {ss : List Sl} {xs : List V} {G : List Addr} {σ : L2.St} {env e2 : Env'} {F : Fs}, StOk c m H Z σ env F → Tmps c H Z σ xs ss G → Sep Z F G → setAll is ss env = some e2 →
    ∃ F', StOk c m H Z ((is.zip xs).foldl (fun τ p => τ.set p.1 (some p.2)) σ) e2 F' ∧ Pin env σ ((is.zip xs).foldl (fun τ p => τ.set p.1 (some p.2)) σ) ∧ ∀ i a, a ∈ F' i → a ∈ F i ∨ a ∈ G
  | [], ss, xs, G, σ, env, e2, F, S, t, sp, h => by
    cases ss with
    | nil =>
      simp only [setAll] at h; cases h
      exact ⟨F, S, Pin.refl _ _, fun _ _ h => .inl h⟩
    | cons => simp [setAll] at h
  | i :: is, ss, xs, G, σ, env, e2, F, S, t, sp, h => by
    cases ss with
    | nil => simp [setAll] at h
    | cons s ss =>
      simp only [setAll] at h
      split at h
      · rename_i d e1 hd hs
        obtain ⟨k1, rfl, tt, k3, k4⟩ := setS_get hs
        generalize hss : s :: ss = sss at t
        cases t with
        | nil => cases hss
        | cons t1 t2 dj =>
          cases hss
          rename_i x G1 xs' G2
          have S1 := put_val S k1 t1 sp.left hd
          have sp2 : Sep Z (fset F i G1) G2 := ⟨sp.right.z, fun a ha j hj => by
            by_cases q : j = i
            · subst q; rw [fset_same] at hj; exact dj a hj ha
            · rw [fset_ne q] at hj; exact sp.right.f a ha j hj⟩
          have t2' : Tmps c H Z (σ.set i (some x)) xs' ss G2 := by
            have go : ∀ {xs : List V} {ss : List Sl} {G : List Addr} {is : List Nat} {e e2 : Env'}, Tmps c H Z σ xs ss G → setAll is ss e = some e2 → Tmps c H Z (σ.set i (some x)) xs ss G := by
              intro xs ss G is e e2 t
              induction t generalizing is e with
              | nil => intro _; exact .nil
              | cons t1 _ dj ih =>
                intro h
                cases is with
                | nil => simp [setAll] at h
                | cons j is =>
                  simp only [setAll] at h
                  split at h
                  · rename_i hv _; exact .cons (val_any t1 hv) (ih h) dj
                  · cases h
            exact go t2 h
          obtain ⟨F', S', P', sub⟩ := setAll_ok S1 t2' sp2 h
          refine ⟨F', S', fun j b n d q => ?_, fun j a ha => ?_⟩
          · have hj : j ≠ i := fun e => by subst e; rw [k3] at q; cases q; cases k4
            have q2 : (env.set i s)[j]? = some (.w b n d) := by rw [List.getElem?_set_ne (Ne.symm hj)]; exact q
            exact (P' j b n d q2).trans (List.getElem?_set_ne (Ne.symm hj))
          · rcases sub j a ha with h | h
            · by_cases q : j = i
              · subst q; rw [fset_same] at h; exact .inr (List.mem_append_left _ h)
              · rw [fset_ne q] at h; exact .inl h
            · exact .inr (List.mem_append_right _ h)
      · cases h
theorem par_read {is : List Nat} (h : rdS c m T W (.par is rs) D σ H) : tAll (rs.map (rdE c m T W)) σ H fun xs H1 => D.nx ((is.zip xs).foldl (fun τ p => τ.set p.1 (some p.2)) σ) H1 := by
  obtain ⟨env, Z, F, S, h⟩ := h
  simp only [wpS] at h
  refine args_read rs S (wpEs_mono rs env (wpEs_lk rs env h) (fun ss e1 h1 xs H1 Z1 F1 G E1 S1 t sp gs => ?_) fun _ _ h => KsD.exE h.2)
  have h2 := h1.2
  split at h2
  · rename_i e2 hq
    obtain ⟨F', S', P', sub⟩ := setAll_ok S1 t sp hq
    refine h2 _ H1 Z1 F' ⟨E1.keep, E1.dom, fun i a ha => ?_, E1.zsub, E1.znew⟩ S' ((Pin.refl env σ).trans h1.1 P')
    rcases sub i a ha with k | k
    · exact E1.fsub i a k
    · exact gs a k
  · exact h2.elim
theorem s_par2 {i j : Nat} {px py pt : Pos} {kt k2 pt2} (B : BX X c T W N sc fx tb) (h1 : locC sc (fun _ => false) N i x = true) (h2 : locC sc (fun _ => false) N j y = true) (hij : i ≠ j) (ha : PA X [a, b] (tAll ([ra, rb].map (rdE c m T W))))
    (hw : swappedStores [.Tuple [.Name x px, .Name y py] kt pt] (.Tuple [a, b] k2 pt2) X.env = pure (some [x, y])) (hs : swapsWithSole [.Tuple [.Name x px, .Name y py] kt pt] (.Tuple [a, b] k2 pt2) pos.line X.env = pure false := by rfl) :
    PS X (.Assign [.Tuple [.Name x px, .Name y py] kt pt] (.Tuple [a, b] k2 pt2) pos) (rdS c m T W (.par [i, j] [ra, rb])) := by
  have lc : ∀ {i : Nat} {x : Str}, locC sc (fun _ => false) N i x = true → X.N[i]? = some x ∧ X.env.scope.names.lookup x = some .local := fun {i x} h => by
    unfold locC at h
    simp only [Bool.and_false, Bool.or_false, Bool.and_eq_true, decide_eq_true_eq] at h
    exact ⟨by rw [B.cb.hN]; exact h.1, by rw [B.cb.hs]; exact h.2⟩
  refine (ps_par B.calm B.cb.ND (lc h1).1 (lc h2).1 hij (lc h1).2 (lc h2).2 ha hw hs).imp' fun D σ H h => ?_
  have q1 : rdE c m T W ra σ H fun u H1 => rdE c m T W rb σ H1 fun v H2 => D.nx (([i, j].zip [u, v]).foldl (fun τ p => τ.set p.1 (some p.2)) σ) H2 := par_read h
  show rdE c m T W ra σ H fun u H1 => rdE c m T W rb σ H1 fun v H2 => ∃ u' v', [u, v] = [u', v'] ∧ D.nx ((σ.set i (some u')).set j (some v')) H2
  exact rdE_mono q1 fun u H1 q2 => rdE_mono q2 fun v H2 q3 => ⟨u, v, rfl, q3⟩
end

/-! ### the module's facts -/
/-- a def's promise, as the text may call it -/
def CalM (P : Program) (w : World) (K : PySem.W.Frag) (mg : Str → Option Value) (base : Heap) (c : Cn) (T : Txt) (k i : Nat) (x : Str) : Prop :=
  ∃ f fd ps, FnG P w K mg base k f fd ps (spC c (T.ctr i) (T.len i).length) ∧ mg x = some (.ref f) ∧ PySem.W.keepIn K (.ref f) = true ∧ Binds K fd ps []
def CalKM (P : Program) (w : World) (K : PySem.W.Frag) (mg : Str → Option Value) (base : Heap) (c : Cn) (T : Txt) (k i : Nat) (x : Str) (ks : List Str) (inv : List Nat) : Prop :=
  ∃ f fd ps, FnG P w K mg base k f fd ps (spC c (T.ctr i) (T.len i).length) ∧ mg x = some (.ref f) ∧ PySem.W.keepIn K (.ref f) = true ∧ KBn K fd ps ks inv
def GcM (mg : Str → Option Value) (T : Txt) (g : Nat) (x : Str) : Prop := ∃ v u, mg x = some u ∧ RelV v u ∧ ∀ K H Z, Rep K H Z 0 v (T.cst g) []
structure LM (P : Program) (w : World) (K : PySem.W.Frag) (mg : Str → Option Value) (base : Heap) (c : Cn) (T : Txt) (k : Nat) (tb : Tb) : Prop where
  hK : c.K = K
  bl : ∀ x ∈ (["abs", "all", "any", "bool", "dict", "enumerate", "int", "isinstance", "len", "list", "max", "min", "range", "repr", "sorted", "str", "sum", "tuple", "zip"] : List Str), mg x = none
  fn : ∀ p ∈ tb.fn, CalM P w K mg base c T k p.1 p.2
  fk : ∀ p ∈ tb.fk, CalKM P w K mg base c T k p.1 p.2.1 p.2.2.1 p.2.2.2
  gc : ∀ p ∈ tb.gc, GcM mg T p.1 p.2
theorem bx_def {P : Program} {w : World} {K : PySem.W.Frag} {mg : Str → Option Value} {base : Heap} {c : Cn} {T : Txt} {k : Nat} {tb : Tb} {N ps : List Str} {x : Str} {sc : Scope} {f : Addr} {cdv : Value} {A : Around} {outer : List Env} {s : Shared} {H : Hp} {E : XK}
    (L : LM P w K mg base c T k tb) (S : FnScope N ps sc) (hg : A.guards = some []) (hr : Room k (A.deeper (PyProof.Rows.envOfC x sc s.heap.objs.size f cdv))) :
    BX (cxOf (L2.CX P w) P w K mg base N x sc f cdv A outer s H E) c T (WE0 E) N sc (fun _ => true) tb where
  cb := { hf := fun _ _ => rfl, hK := L.hK, hN := rfl, nd := S.nd, hs := rfl, hu := by show (A.deeper _).units + 65 < cLine; have := hr.un; omega, hg := hg, bl := L.bl }
  calm := rfl
  tk := takes_of (E₁ := _) rfl rfl rfl rfl
  po := passes_of (E₁ := _) rfl
  fn := fun p h => by obtain ⟨f, fd, ps, h1, h2, h3, h4⟩ := L.fn p h; exact ⟨⟨k, f, fd, ps, h1, hr, h2, h3, h4⟩⟩
  fk := fun p h => by obtain ⟨f, fd, ps, h1, h2, h3, h4⟩ := L.fk p h; exact ⟨⟨k, f, fd, ps, h1, hr, h2, h3, h4⟩⟩
  gc := L.gc

/-! ### nodes in short -/
section
variable {X : Cx} {c : Cn} {m : Am} {T : Txt} {W : WX} {N : List Str} {sc scope : Scope} {fx : Str → Bool} {tb : Tb} {e a b d : Expr} {es ifs : List Expr} {r ra rb rc : RE} {rs rifs : List RE} {pos p2 p3 p : Pos} {x y : Str}
theorem n_call (j : Nat) {i : Nat} (B : BX X c T W N sc fx tb) (hj : tb.fn[j]? = some (i, x)) (hg : glC sc x = true) (ha : PA X (e :: es) (tAll (rs.map (rdE c m T W)))) (he : starEach (e :: es) X.env = (false, eval e X.env) :: starEach es X.env := by rfl) (hpl : (backTo pos (starEach es X.env)).any (·.1) = false := by rfl) :
    PE X (.Call (.Name x p) (e :: es) [] pos) (rdE c m T W (.call i rs)) := e_call B.cb (B.fn _ (List.mem_of_getElem? hj)) B.tk hg ha he hpl
theorem n_glb (j : Nat) {g : Nat} (B : BX X c T W N sc fx tb) (hj : tb.gc[j]? = some (g, x)) (hg : glC sc x = true) : PE X (.Name x pos) (rdE c m T W (.glb g)) := e_glb B.cb (B.gc _ (List.mem_of_getElem? hj)) hg
theorem n_add (B : BX X c T W N sc fx tb) (ha : PE X a (rdE c m T W ra)) (hb : PE X b (rdE c m T W rb)) : PE X (.BinOp a .Add b pos) (rdE c m T W (.prim .add [ra, rb])) := e_bin (o2_add B.cb.hK) ha hb
theorem n_sub (B : BX X c T W N sc fx tb) (ha : PE X a (rdE c m T W ra)) (hb : PE X b (rdE c m T W rb)) : PE X (.BinOp a .Sub b pos) (rdE c m T W (.prim .sub [ra, rb])) := e_bin o2_sub ha hb
theorem n_mul (B : BX X c T W N sc fx tb) (ha : PE X a (rdE c m T W ra)) (hb : PE X b (rdE c m T W rb)) : PE X (.BinOp a .Mult b pos) (rdE c m T W (.prim .mul [ra, rb])) := e_bin o2_mul ha hb
theorem n_fdiv (B : BX X c T W N sc fx tb) (ha : PE X a (rdE c m T W ra)) (hb : PE X b (rdE c m T W rb)) : PE X (.BinOp a .FloorDiv b pos) (rdE c m T W (.prim .fdiv [ra, rb])) := e_bin o2_fdiv ha hb
theorem n_mod (B : BX X c T W N sc fx tb) (ha : PE X a (rdE c m T W ra)) (hb : PE X b (rdE c m T W rb)) : PE X (.BinOp a .Mod b pos) (rdE c m T W (.prim .mod [ra, rb])) := e_bin o2_mod ha hb
theorem n_pow (B : BX X c T W N sc fx tb) (ha : PE X a (rdE c m T W ra)) (hb : PE X b (rdE c m T W rb)) : PE X (.BinOp a .Pow b pos) (rdE c m T W (.prim .pow [ra, rb])) := e_bin o2_pow ha hb
theorem op_eq' (B : BX X c T W N sc fx tb) : OpR X (compareOp .Eq) (r2 c .eq) := o2_eq B.cb.hK B.cb.hu
theorem op_ne' (B : BX X c T W N sc fx tb) : OpR X (compareOp .NotEq) (r2 c .ne) := o2_ne B.cb.hK B.cb.hu
theorem op_lt' (B : BX X c T W N sc fx tb) : OpR X (compareOp .Lt) (r2 c .lt) := o2_lt B.cb.hu
theorem op_le' (B : BX X c T W N sc fx tb) : OpR X (compareOp .LtE) (r2 c .le) := o2_le
theorem op_gt' (B : BX X c T W N sc fx tb) : OpR X (compareOp .Gt) (r2 c .gt) := o2_gt
theorem op_ge' (B : BX X c T W N sc fx tb) : OpR X (compareOp .GtE) (r2 c .ge) := o2_ge
theorem op_is' (B : BX X c T W N sc fx tb) : OpR X (compareOp .Is) (r2 c .is_) := o2_is
theorem op_isn' (B : BX X c T W N sc fx tb) : OpR X (compareOp .IsNot) (r2 c .isn) := o2_isn
theorem op_in' (B : BX X c T W N sc fx tb) : OpR X (compareOp .In) (r2 c .in_) := o2_in B.cb.hK B.cb.hu
theorem op_nin' (B : BX X c T W N sc fx tb) : OpR X (compareOp .NotIn) (r2 c .nin) := o2_nin B.cb.hK B.cb.hu
variable (B : BX X c T W N sc fx tb) (ha : PA X (e :: es) (tAll (rs.map (rdE c m T W)))) (he : starEach (e :: es) X.env = (false, eval e X.env) :: starEach es X.env := by rfl) (hpl : (backTo pos (starEach es X.env)).any (·.1) = false := by rfl)
include B ha he hpl
theorem b_len (hg : glC sc "len" = true) : PE X (.Call (.Name "len" p) (e :: es) [] pos) (rdE c m T W (.prim .len rs)) := e_bi B.cb (c_len B.cb.hK) hg (by simp) PySem.boot_len (by decide) rfl ha he hpl
theorem b_abs (hg : glC sc "abs" = true) : PE X (.Call (.Name "abs" p) (e :: es) [] pos) (rdE c m T W (.prim .abs rs)) := e_bi B.cb c_abs hg (by simp) (by decide +kernel) (by decide) rfl ha he hpl
theorem b_min2 (hg : glC sc "min" = true) : PE X (.Call (.Name "min" p) (e :: es) [] pos) (rdE c m T W (.prim .min2 rs)) := e_bi B.cb (c_min2 B.calm) hg (by simp) (by decide +kernel) (by decide) rfl ha he hpl
theorem b_max2 (hg : glC sc "max" = true) : PE X (.Call (.Name "max" p) (e :: es) [] pos) (rdE c m T W (.prim .max2 rs)) := e_bi B.cb (c_max2 B.calm) hg (by simp) (by decide +kernel) (by decide) rfl ha he hpl
theorem b_minL (hg : glC sc "min" = true) : PE X (.Call (.Name "min" p) (e :: es) [] pos) (rdE c m T W (.prim .minL rs)) := e_bi B.cb (c_minL B.calm) hg (by simp) (by decide +kernel) (by decide) rfl ha he hpl
theorem b_maxL (hg : glC sc "max" = true) : PE X (.Call (.Name "max" p) (e :: es) [] pos) (rdE c m T W (.prim .maxL rs)) := e_bi B.cb (c_maxL B.calm) hg (by simp) (by decide +kernel) (by decide) rfl ha he hpl
theorem b_sum (hg : glC sc "sum" = true) : PE X (.Call (.Name "sum" p) (e :: es) [] pos) (rdE c m T W (.prim .sum rs)) := e_bi B.cb (c_sum B.calm) hg (by simp) (by decide +kernel) (by decide) rfl ha he hpl
theorem b_all (hg : glC sc "all" = true) : PE X (.Call (.Name "all" p) (e :: es) [] pos) (rdE c m T W (.prim .all_ rs)) := e_bi B.cb (c_all B.calm) hg (by simp) (by decide +kernel) (by decide) rfl ha he hpl
theorem b_any (hg : glC sc "any" = true) : PE X (.Call (.Name "any" p) (e :: es) [] pos) (rdE c m T W (.prim .any_ rs)) := e_bi B.cb (c_any B.calm) hg (by simp) (by decide +kernel) (by decide) rfl ha he hpl
theorem b_sorted (hg : glC sc "sorted" = true) : PE X (.Call (.Name "sorted" p) (e :: es) [] pos) (rdE c m T W (.prim .sorted rs)) := e_bi B.cb c_sorted hg (by simp) (by decide +kernel) (by decide) rfl ha he hpl
theorem b_repr (hg : glC sc "repr" = true) : PE X (.Call (.Name "repr" p) (e :: es) [] pos) (rdE c m T W (.prim .repr_ rs)) := e_bi B.cb (c_repr B.cb.hK B.cb.hg B.cb.hu) hg (by simp) (by decide +kernel) (by decide) rfl ha he hpl
theorem b_int (hg : glC sc "int" = true) : PE X (.Call (.Name "int" p) (e :: es) [] pos) (rdE c m T W (.prim .int_ rs)) := e_ty B.cb c_int hg (by simp) (by decide +kernel) (by decide) rfl ha he hpl
theorem b_bool (hg : glC sc "bool" = true) : PE X (.Call (.Name "bool" p) (e :: es) [] pos) (rdE c m T W (.prim .bool_ rs)) := e_ty B.cb c_bool hg (by simp) (by decide +kernel) (by decide) rfl ha he hpl
theorem b_str (hg : glC sc "str" = true) : PE X (.Call (.Name "str" p) (e :: es) [] pos) (rdE c m T W (.prim .str_ rs)) := e_ty B.cb c_str hg (by simp) (by decide +kernel) (by decide) rfl ha he hpl
theorem b_tuple (hg : glC sc "tuple" = true) : PE X (.Call (.Name "tuple" p) (e :: es) [] pos) (rdE c m T W (.prim .tuple rs)) := e_ty B.cb c_tuple hg (by simp) (by decide +kernel) (by decide) rfl ha he hpl
theorem b_list (hg : glC sc "list" = true) : PE X (.Call (.Name "list" p) (e :: es) [] pos) (rdE c m T W (.prim .list rs)) := e_ty B.cb c_list hg (by simp) (by decide +kernel) (by decide) rfl ha he hpl
end
end DL
end
section
set_option Elab.async false
set_option linter.all false
set_option maxRecDepth 100000
set_option maxHeartbeats 3900000
/-! DL18: which stores of several names are swapped. -/
namespace DL
open PySem PySem.Spec L2
section
variable {X : Cx} {c : Cn} {N : List Str} {sc : Scope} {fx : Str → Bool} {a b : Expr} {x y : Str}
def starred : Expr → Bool
  | .Starred .. => true
  | _ => false
theorem sw2 {i j : Nat} {px py pt : Pos} {kt k2 pt2} (B : CB X c N sc fx) (h1 : locC sc (fun _ => false) N i x = true) (h2 : locC sc (fun _ => false) N j y = true) (hk : sc.kind = .function) (hl : (py.line == px.line && !(x == y) && !(starred a || starred b)) = true)
    (hf : ([a, b].all (foldedForSure 8)) = false) (hc : ([a, b].all (constantsAlone 8)) = false) :
    swappedStores [.Tuple [.Name x px, .Name y py] kt pt] (.Tuple [a, b] k2 pt2) X.env = pure (some [x, y]) := by
  have lc : ∀ {i : Nat} {x : Str}, locC sc (fun _ => false) N i x = true → X.env.kindOf x = some .local := fun {i x} h => by
    unfold locC at h
    simp only [Bool.and_false, Bool.or_false, Bool.and_eq_true, decide_eq_true_eq] at h
    show X.env.scope.names.lookup x = _
    rw [B.hs]; exact h.2
  have e1 := lc h1
  have e2 := lc h2
  have eb : (X.env.blockKind != .function) = false := by
    unfold Env.blockKind
    simp [B.hs, hk]
  simp only [Bool.and_eq_true, Bool.not_eq_true', Bool.or_eq_false_iff, beq_iff_eq] at hl
  obtain ⟨⟨l1, l2⟩, l3, l4⟩ := hl
  have nd : x ≠ y := fun e => by subst e; simp at l2
  have nn : (some NameKind.local == some NameKind.local && px.line == px.line) = true := by simp
  have l2' : (y == x) = false := by rw [beq_eq_false_iff_ne]; exact fun e => nd e.symm
  unfold swappedStores
  simp only [List.length_cons, List.length_nil, eb, List.any_cons, List.any_nil, hf, hc, List.filterMap_cons, List.filterMap_nil, e1, e2, l1, List.head?, Option.map, Option.getD, Expr.pos, nn, if_true]
  have ed : ([x, y] : List Str).eraseDups = [x, y] := by
    simp [List.eraseDups_cons, l2', nd, Ne.symm nd]
  rw [if_neg (by simp), if_neg]
  · rw [if_neg (by rw [ed]; simp), if_neg (by simp), if_neg (by simp)]
  · intro h
    rw [Bool.or_eq_true, Bool.or_eq_true] at h
    rcases h with h | h | h
    · cases a <;> first | exact absurd (show false = true from h) (by decide) | exact absurd (show true = false from l3) (by decide)
    · cases b <;> first | exact absurd (show false = true from h) (by decide) | exact absurd (show true = false from l4) (by decide)
    · exact nomatch h
end
end DL
end
section
set_option Elab.async false
set_option linter.all false
set_option maxRecDepth 100000
set_option maxHeartbeats 3900000
/-! DL19: a dict that owns what stands in it; [::-1]. -/
namespace DL
open PySem PySem.Spec L2
section
variable {X : Cx} {c : Cn} {m : Am} {T : Txt} {W : WX} {N : List Str} {sc scope : Scope} {fx : Str → Bool} {tb : Tb} {e a b d : Expr} {es ifs : List Expr} {r ra rb rc : RE} {rs rifs : List RE} {pos p2 p3 p : Pos} {x y : Str} {D : Ends}
  {σ σ' : L2.St} {H H' : Hp} {Z Z' : Zn} {F F' : Fs} {env env' : Env'}
theorem updM_ok {A : Addr} {o u : HO} (S : StOk c m H Z σ env F) (hd : H A = some o) (mu : Mut (some o)) (nz : ¬ Z A) (nf : ∀ i, A ∉ F i) : StOk c m (upd H A u) Z σ env F where
  len := S.len
  sl := fun i s e => (S.sl i s e).ext (fun a ha => upd_ne fun q => nf i (q ▸ ha)) (fun a o' q k => by
    rw [upd_ne fun e2 => ?_]; exact q
    subst e2
    rw [hd] at q; cases q
    rcases k with k | k
    · exact k mu
    · exact nz k) fun _ h => h
  out := S.out
  dis := S.dis
  zn := S.zn
  zh := fun a h q => by
    by_cases e2 : a = A
    · subst e2; rw [upd_same] at q; cases q
    · rw [upd_ne e2] at q; exact S.zh a h q
theorem updM_rs {A : Addr} {o u : HO} {n : Nat} {vs : List V} {ds : List DL.D} {G : List Addr} (r : Rs c.K H Z n vs ds G) (hd : H A = some o) (mu : Mut (some o)) (nz : ¬ Z A) (nf : A ∉ G) : Rs c.K (upd H A u) Z n vs ds G :=
  r.keep (fun a o' q k => by
    rw [upd_ne fun e2 => ?_]; exact q
    subst e2
    rw [hd] at q; cases q
    rcases k with k | k | k
    · exact k mu
    · exact nz k
    · exact nf k) fun _ h => h
theorem nest_rs {xs : List V} {ss : List Sl} {G : List Addr} (t : Tmps c H Z σ xs ss G) : ∀ {ds : List DL.D}, nestDs ss = some ds → Rs c.K H Z 1 xs ds G := by
  induction t with
  | nil => intro ds h; cases h; exact .nil
  | cons t1 _ dj ih =>
    intro ds h
    rename_i x s G1 xs ss G2 _
    cases s with
    | v d =>
      simp only [nestDs] at h
      split at h
      · rename_i hi
        cases q : nestDs ss with
        | none => rw [q] at h; cases h
        | some r =>
          rw [q] at h; cases h
          obtain ⟨e1, t1⟩ := t1
          subst e1
          exact Rs.cons ((Rep.imm t1 hi).2 1 Z) (ih q) Dj.nil_l
      · cases h
    | o n d =>
      cases n with
      | zero =>
        simp only [nestDs] at h
        cases q : nestDs ss with
        | none => rw [q] at h; cases h
        | some r =>
          rw [q] at h; cases h
          exact Rs.cons t1 (ih q) dj
      | succ n => simp [nestDs] at h
    | _ => simp [nestDs] at h
theorem merge_nodup : ∀ (more kvs : List (Key × V)), (more.map (·.1)).Nodup → (∀ k ∈ more.map (·.1), k ∉ kvs.map (·.1)) → mergeK kvs more = kvs ++ more
  | [], kvs, _, _ => by simp [mergeK]
  | q :: r, kvs, nd, ap => by
    have hn : (kvs.any fun kv => decide (kv.1 = q.1)) = false := by
      rw [List.any_eq_false]
      intro kv hk e
      exact ap q.1 (by simp) (List.mem_map.mpr ⟨kv, hk, of_decide_eq_true e⟩)
    have e1 : putK kvs q.1 q.2 = kvs ++ [q] := by unfold putK; rw [if_neg (by rw [hn]; simp)]
    show mergeK (putK kvs q.1 q.2) r = _
    rw [e1, merge_nodup r (kvs ++ [q]) (List.nodup_cons.mp nd).2 fun k hk h => ?_]
    · simp
    · rw [List.map_append, List.mem_append] at h
      rcases h with h | h
      · exact ap k (by rw [List.map_cons]; exact List.mem_cons_of_mem _ hk) h
      · simp at h; subst h; exact (List.nodup_cons.mp nd).1 hk
def trsOf (c : Cn) (m : Am) (T : Txt) (W : WX) (ks : List Str) (rs : List RE) : List (TE × TE) := (ks.zip rs).map fun p => (tC (.str p.1), rdE c m T W p.2)
theorem d_nil : PPs X pos [] [] (trsOf c m T W [] []) := pps_nil
theorem d_cons {k : Str} {ks : List Str} {j : Nat} {kes : List (Option Expr)} (hv : PE X e (rdE c m T W r)) (hr : PPs X pos kes es (trsOf c m T W ks rs)) : PPs X pos (some (.Constant (.str k) j p) :: kes) (e :: es) (trsOf c m T W (k :: ks) (r :: rs)) := pps_cons pe_str hv hr
theorem pairs_of : ∀ {ks : List Str} {rs : List RE} {H : Hp} {R : List V → Hp → Prop} {Q : List (V × V) → Hp → Prop}, ks.length = rs.length → tAll (rs.map (rdE c m T W)) σ H R → (∀ xs H, xs.length = ks.length → R xs H → Q ((ks.zip xs).map fun q => (V.str q.1, q.2)) H) → tPairs (trsOf c m T W ks rs) σ H Q
  | [], [], H, R, Q, _, h, k => k [] H rfl h
  | s :: ks, r :: rs, H, R, Q, hl, h, k => by
    show rdE c m T W r σ H fun y H2 => tPairs (trsOf c m T W ks rs) σ H2 fun ps H3 => Q ((V.str s, y) :: ps) H3
    refine rdE_mono h fun y H2 h2 => pairs_of (by simpa using hl) h2 fun xs H3 hx q => ?_
    exact k (y :: xs) H3 (by simp [hx]) q
  | [], _ :: _, _, _, _, hl, _, _ => by simp at hl
  | _ :: _, [], _, _, _, hl, _, _ => by simp at hl
theorem e_dKN {ks : List Str} {kes : List (Option Expr)} (h : PPs X pos kes es (trsOf c m T W ks rs)) (hl : ks.length = rs.length) (hall : kes.all (·.isSome) = true := by rfl) (hl2 : kes.length = es.length := by rfl) (h0 : kes ≠ [] := by simp) (h15 : kes.length ≤ 15 := by decide) :
    PE X (.Dict kes es pos) (rdE c m T W (.prim (.dKN ks) rs)) := (pe_disp h hall hl2 h0 h15).imp' fun σ H Q q => by
  obtain ⟨env, Z, F, S, q⟩ := q
  simp only [wpE] at q
  intro A hA
  have g1 := grow_upd (o := .dK []) hA
  have S0 : StOk c m (upd H A (.dK [])) Z σ env F := S.grow g1
  have E0 : Ext H Z F (upd H A (.dK [])) Z F := Ext.grow g1
  have nZ : ¬ Z A := fun hz => S.zh A hz hA
  have nF : ∀ i, A ∉ F i := fun i hi => S.there hi hA
  refine pairs_of hl (args_read rs S0 (wpEs_mono rs env q (fun ss e1 h1 xs H1 Z1 F1 G E1 S1 t sp gs => ?_) fun _ _ h => h.from E0)) (fun xs H1 hx h => h)
  · have h1 : nestQ ks ss fun s => PostE c m σ H Z F Q s e1 := h1
    unfold nestQ at h1
    split at h1
    · rename_i ds hds
      obtain ⟨l1, nd, l15, q2⟩ := h1
      have at1 : H1 A = some (.dK []) := E1.keep A _ upd_same (.inr nF)
      have nZ1 : ¬ Z1 A := fun hz => by
        rcases E1.znew A hz with h | ⟨j, h⟩ | h
        · exact nZ h
        · exact nF j h
        · rw [upd_same] at h; cases h
      have nF1 : ∀ i, A ∉ F1 i := fun i hi => by
        rcases E1.fsub i A hi with ⟨j, h⟩ | h
        · exact nF j h
        · rw [upd_same] at h; cases h
      have nG : A ∉ G := fun hg => by
        rcases gs A hg with ⟨j, h⟩ | h
        · exact nF j h
        · rw [upd_same] at h; cases h
      have rr := nest_rs t hds
      have lx : xs.length = ks.length := by rw [rr.length, l1]
      let kvs : List (Key × V) := (ks.map Sum.inr).zip xs
      have keys : kvs.map (·.1) = ks.map Sum.inr := List.map_fst_zip (by simp [lx])
      have vals : kvs.map (·.2) = xs := List.map_snd_zip (by simp [lx])
      have keysD : ((ks.map Sum.inr).zip ds : List (Key × DL.D)).map (·.1) = ks.map Sum.inr := List.map_fst_zip (by simp [l1])
      have valsD : ((ks.map Sum.inr).zip ds : List (Key × DL.D)).map (·.2) = ds := List.map_snd_zip (by simp [l1])
      have mk : mergeK [] kvs = kvs := by
        rw [merge_nodup kvs [] (by rw [keys]; exact nd.map _ (fun a b h e => h (Sum.inr.inj e))) (by simp)]
        rfl
      refine ⟨at1, kvs, ?_, by show ((ks.map Sum.inr).zip xs : List (Key × V)).length ≤ 15; simp [lx]; omega, ?_⟩
      · show _ = ((ks.map Sum.inr).zip xs : List (Key × V)).map _
        rw [List.zip_map_left, List.map_map]
        rfl
      · rw [mk]
        have S2 : StOk c m (upd H1 A (.dK kvs)) Z1 σ e1 F1 := updM_ok S1 at1 trivial nZ1 nF1
        have E2 : Ext H Z F (upd H1 A (.dK kvs)) Z1 F1 := updD_ext (E0.trans E1) hA
        have r2 : Rep c.K (upd H1 A (.dK kvs)) Z1 2 (.ref A) (.dK ((ks.map Sum.inr).zip ds)) (A :: G) :=
          Rep.mk_dK1 upd_same (by rw [keys, keysD]) (by rw [vals, valsD]; exact updM_rs rr at1 trivial nZ1 nG) nG
        refine q2 (.ref A) _ Z1 F1 (A :: G) E2 S2 r2 ⟨fun a ha => ?_, fun a ha i => ?_⟩ fun a ha => ?_
        · rcases List.mem_cons.mp ha with h | h
          · subst h; exact nZ1
          · exact sp.z a h
        · rcases List.mem_cons.mp ha with h | h
          · subst h; exact nF1 i
          · exact sp.f a h i
        · rcases List.mem_cons.mp ha with h | h
          · subst h; exact .inr hA
          · exact gs.back E0 a h
    · exact h1.elim
/-! ### [::-1] -/
theorem e_rev {k : Nat} {p1 : Pos} (B : CB X c N sc fx) (ha : PE X a (rdE c m T W ra)) : PE X (.Subscript a (.Slice none none (some (.UnaryOp .USub (.Constant (.int 1) k p1) p2)) p3) pos) (rdE c m T W (.prim .rev [ra])) :=
  (pe_revL ha).imp' fun σ H Q h => by
    have h1 : tUn (r1 c .rev) (rdE c m T W ra) σ H Q := one_read rfl h
    refine rdE_mono h1 fun x H1 ⟨Z, d, hx, hq⟩ => ?_
    cases d with
    | lst ds =>
      obtain ⟨A, vs, rfl, hv, rv⟩ := hx
      have hq : Res c H1 Z .rev Q (.lst ds.reverse) := hq
      exact ⟨A, vs, rfl, .inl (.inl hv), fun pp hp => hq.lst rv.rev0 hp⟩
    | _ => simp only [pw] at hq
end
end DL
end
section
set_option Elab.async false
set_option linter.all false
set_option maxRecDepth 100000
set_option maxHeartbeats 3900000
/-! DL20: the pot of a law, the draw out of it. -/
namespace DL
open PySem PySem.Spec L2

/-- the pot -/
def potD (gs : List Int) (s t : Int) : D := .dK [(.inr "great", .lst (gs.map D.int)), (.inr "seal", .int s), (.inr "turn", .int t)]
def potK (g : V) (s t : Int) : List (Key × V) := [(.inr "great", g), (.inr "seal", .int s), (.inr "turn", .int t)]
/-- the draw's promise -/
def drawC : Ctr where
  run := fun ss Q _ => ∃ gs s t many, ss = [.p 1 (potD gs s t), .v (.int many)] ∧ (0 < many ∧ many.natAbs.log2 < 9000) ∧ gs.length ≤ 62 ∧ ∀ (x : Int) (gs' : List Int) (s' t' : Int), 0 ≤ x → x < many → gs'.length ≤ 62 → Q (.v (.int x)) [.p 1 (potD gs' s' t'), .no]
  mono := fun {ss Q Q' E E'} ⟨gs, s, t, many, h1, h2, hl, h3⟩ hq _ => ⟨gs, s, t, many, h1, h2, hl, fun x gs' s' t' a b l => hq _ _ (h3 x gs' s' t' a b l)⟩
def ixG : R2 := fun x y H Q => ∃ a r, x = .ref a ∧ DGet H a y (some r) ∧ Q r H
section
variable {X : Cx}
theorem ix_get (hu : X.A.units + 65 < cLine) : IxR X ixG := by
  intro value slice pn0 s σ H x y v u Q I rx ry h hs
  obtain ⟨a, r, rfl, g, q⟩ := h
  obtain rfl : v = .ref a := rx
  exact PyProof.Rows.tail_any (dict_typeIs I g) PySem.F.slot_dict_getitem.lookup (d_getItem (by omega) I g ry fun w2 s2 I2 r2 => ⟨r, H, I2, r2, q⟩) hs
/-- o[k] by its reading -/
def ixP (k : Str) : TE := tOp ixG (tVar 0) (tC (.str k))
def tInt (t : TE) : TE := tCB (fun xs H Q => (∃ i, xs = [.int i] ∧ Q (.int i) H) ∨ ∃ k, xs = [.bl k] ∧ Q (.int (if k then 1 else 0)) H) (tCons t tNil)
def tPlus (a b : TE) : TE := tOp (rI0 fun i j => .int (i + j)) a b
def tMulC (a b : TE) : TE := tOp (rI CMul fun i j => .int (i * j)) a b
def tModC' (a b : TE) : TE := tOp (rI (fun _ j => 0 < j) fun i j => .int (i % j)) a b
def tDivC (a b : TE) : TE := tOp (rI CDivW fun i j => .int (i / j)) a b
def tPut (k : Str) (t : TE) : TS := tAsg t (gSub (tVar 0) (tC (.str k)) rSetD)
/-- the draw's body, read -/
def tDraw (K : PySem.W.Frag) : TS :=
  tSeq (tAsg (ixP "great") (gName 2)) (tSeq
    (tIfS (tTest (tOp (rNeD K) (tVar 2) (tLst tNil)))
      (tSeq (tAsg (tBM0 K "list" rPop (tVar 2)) (gName 3)) (tSeq
        (tIfS (tTest (tOp (rI0 fun i j => .bl (decide (j ≤ i))) (tVar 3) (tVar 1))) (tSeq (tDrop (tBM K "list" rAppend (tVar 2) (tCons (tDivC (tVar 3) (tVar 1)) tNil))) tNext) tNext)
        (tSeq (tRet (tModC' (tInt (tVar 3)) (tVar 1))) tNext))) tNext)
    (tSeq (tPut "turn" (tPlus (ixP "turn") (tC (.int 1)))) (tSeq
      (tAsg (tModC' (tInt (tPlus (tPlus (tMulC (ixP "seal") (tC (.int 69621))) (tMulC (ixP "turn") (tC (.int 40503)))) (tC (.int 29)))) (tC (.int 4294967279))) (gName 4)) (tSeq
      (tAsg (tModC' (tInt (tPlus (tMulC (tVar 4) (tVar 4)) (tMulC (ixP "seal") (tC (.int 7))))) (tC (.int 4294967231))) (gName 4)) (tSeq
      (tPut "seal" (tModC' (tInt (tPlus (tMulC (ixP "seal") (tC (.int 48271))) (tVar 4))) (tC (.int 4294967291)))) (tSeq
      (tRet (tModC' (tInt (tDivC (tVar 4) (tC (.int 64)))) (tVar 1))) tNext))))))
end
/-- only the pot and its list of great ones are changed -/
structure PotAt (H0 H : Hp) (a g : Addr) (gs : List Int) (s t : Int) : Prop where
  pot : H a = some (.dK (potK (.ref g) s t))
  gr : H g = some (.lst (gs.map V.int))
  else_ : ∀ b, b ≠ a → b ≠ g → H b = H0 b
theorem k_gs : ¬ (("great" : Str) = "seal") := by decide
theorem k_gt : ¬ (("great" : Str) = "turn") := by decide
theorem k_st : ¬ (("seal" : Str) = "turn") := by decide
theorem k_ts : ¬ (("turn" : Str) = "seal") := by decide
theorem get_great {H : Hp} {a g : Addr} {s t : Int} (h : H a = some (.dK (potK (.ref g) s t))) : DGet H a (.str "great") (some (.ref g)) := .inl ⟨_, .inr "great", .inl h, rfl, by simp [potK, valV]⟩
theorem get_seal {H : Hp} {a : Addr} {g : V} {s t : Int} (h : H a = some (.dK (potK g s t))) : DGet H a (.str "seal") (some (.int s)) := .inl ⟨_, .inr "seal", .inl h, rfl, by simp [potK, valV, List.find?_cons, k_gs]⟩
theorem get_turn {H : Hp} {a : Addr} {g : V} {s t : Int} (h : H a = some (.dK (potK g s t))) : DGet H a (.str "turn") (some (.int t)) := .inl ⟨_, .inr "turn", .inl h, rfl, by simp [potK, valV, List.find?_cons, k_gt, k_st]⟩
theorem put_seal (g : V) (s t x : Int) : putK (potK g s t) (.inr "seal") (.int x) = potK g x t := by simp [putK, potK, k_gs, k_ts]
theorem put_turn (g : V) (s t x : Int) : putK (potK g s t) (.inr "turn") (.int x) = potK g s x := by simp [putK, potK, k_gt, k_st]
theorem small3 : 3 < sizeLine := by decide
/-- what is wanted behind a draw -/
def WantD (a g : Addr) (H0 : Hp) (many : Int) (Q : VK) : Prop := ∀ (x : Int) (gs' : List Int) (s' t' : Int) (H' : Hp), 0 ≤ x → x < many → gs'.length ≤ 62 → H' a = some (.dK (potK (.ref g) s' t')) → H' g = some (.lst (gs'.map V.int)) → (∀ b o, b ≠ a → b ≠ g → H0 b = some o → H' b = some o) → Q (.int x) H'
theorem lay_ints : ∀ gs : List Int, PyData.canLayAll0 (gs.map PyData.int) = true ∧ PyData.depthAll (gs.map PyData.int) = 0
  | [] => ⟨rfl, rfl⟩
  | x :: r => by
    obtain ⟨h1, h2⟩ := lay_ints r
    constructor
    · simp [PyData.canLayAll0, PyData.canLay0, h1]
    · simp [PyData.depthAll, PyData.depth, h2]
theorem shaped_ints (gs : List Int) : SeqAt.shaped (.list (gs.map PyData.int)) = true := by
  obtain ⟨h1, h2⟩ := lay_ints gs
  simp [SeqAt.shaped, PyData.canLay0, PyData.depth, h1, h2]
theorem dp_ints {K : PySem.W.Frag} {H : Hp} : ∀ gs : List Int, DpAll K H (gs.map V.int) (gs.map PyData.int)
  | [] => .nil
  | x :: r => .cons (.int x) (dp_ints r)
theorem upd2 {H : Hp} {a g : Addr} {o : HO} (h : a ≠ g) : upd H a o g = H g := upd_ne (Ne.symm h)
theorem draw_run {K : PySem.W.Frag} {D : Ends} {H : Hp} {a g : Addr} {gs : List Int} {s t many : Int} (hag : a ≠ g) (h1 : H a = some (.dK (potK (.ref g) s t))) (h2 : H g = some (.lst (gs.map V.int))) (hl : gs.length ≤ 62) (hm : 0 < many ∧ many.natAbs.log2 < 9000) (w : WantD a g H many D.rt) :
    tDraw K D [some (.ref a), some (.int many), none, none, none] H := by
  have s62 : 62 < sizeLine := by decide
  have h64 : CDivW 0 64 := ⟨by decide, by decide⟩
  refine ⟨_, rfl, a, _, rfl, get_great h1, ?_⟩
  -- if great != []
  refine ⟨.ref g, rfl, Nat.zero_le _, fun p hp => ?_⟩
  have el : ∀ b o, H b = some o → (upd H p (.lst [])) b = some o := grow_upd hp
  generalize hH : upd H p (.lst []) = H1 at el
  have e0 : H1 p = some (.lst []) := by rw [← hH]; exact upd_same
  have a1 := el _ _ h1
  have g1 := el _ _ h2
  refine ⟨.list (gs.map PyData.int), .list [], .lst (.inl (.inl g1)) (dp_ints gs), .lst (.inl (.inl e0)) .nil, shaped_ints gs, by rfl, _, rfl, ?_⟩
  refine ite2 (fun ne => ?_) fun ne => ?_
  · cases hgl : gs.getLast? with
    | none =>
      exfalso
      have : gs = [] := List.getLast?_eq_none_iff.mp hgl
      subst this
      simp [PyData.eqv, PyData.eqvAll] at ne
    | some z =>
      have hx : (gs.map V.int)[(gs.map V.int).length - 1]? = some (.int z) := by
        rw [List.getLast?_eq_getElem?] at hgl
        rw [List.length_map, List.getElem?_map, hgl]; rfl
      have hdrop : (gs.map V.int).dropLast = gs.dropLast.map V.int := by simp
      refine ⟨.ref g, rfl, .inl ⟨rfl, _, .inl (.inl g1)⟩, g, _, .int z, rfl, rfl, g1, hx, ?_⟩
      rw [hdrop]
      refine ⟨.int z, rfl, .int many, rfl, z, many, rfl, rfl, _, rfl, ?_⟩
      have mo : 0 ≤ z % many ∧ z % many < many := ⟨Int.emod_nonneg _ (by omega), Int.emod_lt_of_pos _ hm.1⟩
      refine ite2 (fun _ => ?_) fun _ => ?_
      · refine ⟨.ref g, rfl, .inl ⟨rfl, _, .inl (.inl upd_same)⟩, .int z, rfl, .int many, rfl, z, many, rfl, rfl, hm, g, _, .int (z / many), rfl, rfl, upd_same, by simp; omega, ?_⟩
        refine ⟨.int z, rfl, .inl ⟨z, rfl, .int many, rfl, z, many, rfl, rfl, hm.1, ?_⟩⟩
        refine w (z % many) (gs.dropLast ++ [z / many]) s t _ mo.1 mo.2 (by simp; omega) ?_ ?_ ?_
        · rw [upd_ne hag, upd_ne hag]; exact a1
        · rw [upd_same]; simp
        · intro b o hb1 hb2 hb3
          rw [upd_ne hb2, upd_ne hb2]; exact el _ _ hb3
      · refine ⟨.int z, rfl, .inl ⟨z, rfl, .int many, rfl, z, many, rfl, rfl, hm.1, ?_⟩⟩
        refine w (z % many) gs.dropLast s t _ mo.1 mo.2 (by simp; omega) ?_ upd_same ?_
        · rw [upd_ne hag]; exact a1
        · intro b o hb1 hb2 hb3
          rw [upd_ne hb2]; exact el _ _ hb3
  · -- pot['turn'] = pot['turn'] + 1
    have mC : ∀ i j : Int, (-(2 ^ 64) < j ∧ j < 2 ^ 64) → CMul i j := fun i j h => .inr h
    have sm : ∀ i : Int, 0 ≤ i → i < 4294967295 → (-(2 ^ 64) < i ∧ i < 2 ^ 64) := fun i h1 h2 => by omega
    refine ⟨.ref a, rfl, a, _, rfl, get_turn a1, t, 1, rfl, rfl, ?_⟩
    refine ⟨.ref a, rfl, a, _, rfl, DPut.k (k := .inr "turn") a1 small3, ?_⟩
    rw [put_turn]
    -- own
    refine ⟨.ref a, rfl, a, _, rfl, get_seal upd_same, s, 69621, rfl, rfl, mC _ _ (by decide), ?_⟩
    refine ⟨.ref a, rfl, a, _, rfl, get_turn upd_same, t + 1, 40503, rfl, rfl, mC _ _ (by decide), ?_⟩
    refine ⟨_, _, rfl, rfl, _, 29, rfl, rfl, .inl ⟨_, rfl, _, 4294967279, rfl, rfl, (show (0 : Int) < 4294967279 by decide), ?_⟩⟩
    have ob : ∀ z : Int, 0 ≤ z % 4294967279 ∧ z % 4294967279 < 4294967295 := fun z => by omega
    refine ⟨_, rfl, _, rfl, _, _, rfl, rfl, mC _ _ (sm _ (ob _).1 (ob _).2), .ref a, rfl, a, _, rfl, get_seal upd_same, s, 7, rfl, rfl, mC _ _ (by decide), ?_⟩
    refine ⟨_, _, rfl, rfl, .inl ⟨_, rfl, _, 4294967231, rfl, rfl, (show (0 : Int) < 4294967231 by decide), ?_⟩⟩
    -- pot['seal']
    refine ⟨.ref a, rfl, a, _, rfl, get_seal upd_same, s, 48271, rfl, rfl, mC _ _ (by decide), _, rfl, _, _, rfl, rfl, .inl ⟨_, rfl, _, 4294967291, rfl, rfl, (show (0 : Int) < 4294967291 by decide), ?_⟩⟩
    refine ⟨.ref a, rfl, a, _, rfl, DPut.k (k := .inr "seal") upd_same small3, ?_⟩
    rw [put_seal]
    refine ⟨_, rfl, _, 64, rfl, rfl, h64, .inl ⟨_, rfl, .int many, rfl, _, many, rfl, rfl, hm.1, ?_⟩⟩
    refine w _ gs _ _ _ (Int.emod_nonneg _ (by omega)) (Int.emod_lt_of_pos _ hm.1) hl upd_same ?_ ?_
    · rw [upd2 hag, upd2 hag]; exact g1
    · intro b o hb1 hb2 hb3
      rw [upd_ne hb1, upd_ne hb1]; exact el _ _ hb3
end DL
end
section
set_option Elab.async false
set_option linter.all false
set_option maxRecDepth 100000
set_option maxHeartbeats 3900000
/-! DL21: a def by any reading of its body; the draw keeps its promise. -/
namespace DL
open PySem PySem.Spec L2
section
variable {P : Program} {w : World} {K : PySem.W.Frag} {mg : Str → Option Value} {base : Heap} {c : Cn}
theorem fnG_raw {k : Nat} {f : Addr} {x : Str} {st : Stmt} {fd : FuncData} {N ps : List Str} {sp : Sp} (Fn : Fun K x x st f fd) (S : FnScope N ps (defScope st)) (hl : ∀ vs H Q E, sp vs H Q E → vs.length = ps.length)
    (hbody : ∀ (cdv : Value) (A : Around) (outer : List Env) (s : Shared) (H : Hp) (vs : List V) (Q : VK) (E : XK), A.guards = some [] → Room k (A.deeper (PyProof.Rows.envOfC x (defScope st) s.heap.objs.size f cdv)) → sp vs H Q E →
      ∃ t, PSs (cxOf (L2.CX P w) P w K mg base N x (defScope st) f cdv A outer s H E) (defBody st) t ∧ t { nx := fun _ H' => Q .non H', rt := Q } (L2.start N vs) H) : FnG P w K mg base (k + 1) f fd ps sp := by
  obtain ⟨oc, od, kV, doc, pm, an, cdv, ct, osl, rfl, lk, hcd⟩ := Fn.ex
  refine ⟨hl, fun A outer s H args us vs Q E hg hr e0 hb r q => ?_⟩
  have here : ∀ b o, base.get? b = some o → s.heap.get? b = some o := fun b o e => (e0.bs b o e).1
  have inK : K.In s.heap := e0.mod.kin.keeps here
  have par : ∀ y ∈ ps.zip us, (defScope st).names.lookup y.1 = some .local ∨ ((defScope st).names.lookup y.1 = some .cell ∧ ((cellsFrom (s.heap.objs.size + 1) (defScope st).names []).lookup y.1).isSome = true) := by
    rintro ⟨n, v⟩ hy
    exact (S.par n (List.of_mem_zip hy).1).imp id fun e => ⟨e, PySem.W.cellsFrom_some _ _ _ (.inl e)⟩
  refine codeAny_call_function (Room.depth hr) (inK _ _ lk) rfl S.co S.gen rfl (PySem.W.codeRec_of inK hcd) (hb _ _ _ _ (wpAny_newFunctionEnv_cells S.kind par fun env he s1 inC => ?_))
  subst he
  refine ⟨(e0.mod.nolimit.keeps here).keeps inC.toInCall.keep, codeAny_func ?_⟩
  have I0 := inv_start (CX := L2.CX P w) (P := P) (w := w) (E := E) S (Room.hd hr) e0 (hl _ _ _ _ q) r inC
  obtain ⟨t, ht, hq⟩ := hbody cdv A outer s H vs Q E hg (hr.deeper _) q
  refine wpAny_mono (ht.run [] s1 (L2.start N vs) H _ I0 hq) (fun fl s' hs => ?_) fun _ _ hs => hs
  cases fl with
  | next =>
    obtain ⟨σ', H', J, q⟩ := hs
    exact ⟨.non, H', J.os, J.bare, J.base, J.hok, rfl, q⟩
  | ret u =>
    obtain ⟨v, σ', H', J, rv, q⟩ := hs  -- so
    exact ⟨v, H', J.os, J.bare, J.base, J.hok, rv, q⟩
  | brk =>
    obtain ⟨_, _, _, q⟩ := hs
    cases q
  | cont =>
    obtain ⟨_, _, _, q⟩ := hs
    cases q
theorem pot_inv {H : Hp} {Z : Zn} {x : V} {gs : List Int} {s t : Int} {G : List Addr} (h : Rep c.K H Z 2 x (potD gs s t) G) : ∃ a g, x = .ref a ∧ G = [a, g] ∧ a ≠ g ∧ H a = some (.dK (potK (.ref g) s t)) ∧ H g = some (.lst (gs.map V.int)) := by
  obtain ⟨a, ps, G1, rfl, rfl, e1, ek, r, na⟩ := Rep.dK1_inv h
  match ps, ek, r with
  | [(k1, v1), (k2, v2), (k3, v3)], ek, r =>
    simp only [List.map_cons, List.map_nil, List.cons.injEq, and_true] at ek
    obtain ⟨rfl, rfl, rfl⟩ := ek
    simp only [List.map_cons, List.map_nil] at r
    obtain ⟨F1, F2, rfl, r1, r2, _⟩ := r.cons_inv
    obtain ⟨F3, F4, rfl, r3, r4, _⟩ := r2.cons_inv
    obtain ⟨F5, F6, rfl, r5, r6, _⟩ := r4.cons_inv
    obtain ⟨rfl, rfl⟩ := Rep.int_inv r3
    obtain ⟨rfl, rfl⟩ := Rep.int_inv r5
    obtain ⟨_, rfl⟩ := r6.nil_inv
    obtain ⟨g, ys, G2, rfl, rfl, e2, r7, _⟩ := Rep.lst1_inv r1
    have := r7.nilF
    subst this
    have hy := Rs.ints r7
    subst hy
    refine ⟨a, g, rfl, by simp, fun e => na (by rw [e]; simp), e1, e2⟩
theorem pot_mk {H : Hp} {Z : Zn} {gs : List Int} {s t : Int} {a g : Addr} (h : a ≠ g) (h1 : H a = some (.dK (potK (.ref g) s t))) (h2 : H g = some (.lst (gs.map V.int))) : Rep c.K H Z 2 (.ref a) (potD gs s t) [a, g] := by
  refine Rep.mk_dK1 h1 (by simp [potK, potD]) ?_ (by simp [h])
  show Rs c.K H Z 1 [.ref g, .int s, .int t] [.lst (gs.map D.int), .int s, .int t] [g]
  have r1 : Rep c.K H Z 1 (.ref g) (.lst (gs.map D.int)) [g] := Rep.mk_lst1 h2 (Rs.of_ints gs) (by simp)
  have := Rs.cons r1 (.int s (.int t .nil) : Rs c.K H Z 1 [.int s, .int t] [.int s, .int t] []) Dj.nil_r
  simpa using this
theorem fnG_draw {k : Nat} {f : Addr} {x : Str} {st : Stmt} {fd : FuncData} {N ps : List Str} (Fn : Fun K x x st f fd) (S : FnScope N ps (defScope st)) (hps : ps.length = 2) (hN : N.length = 5)
    (hbody : ∀ (cdv : Value) (A : Around) (outer : List Env) (s : Shared) (H : Hp) (E : XK), A.guards = some [] → Room k (A.deeper (PyProof.Rows.envOfC x (defScope st) s.heap.objs.size f cdv)) →
      PSs (cxOf (L2.CX P w) P w K mg base N x (defScope st) f cdv A outer s H E) (defBody st) (tDraw K)) : FnG P w K mg base (k + 1) f fd ps (spC c drawC 2) := by
  refine fnG_raw Fn S (fun vs H Q E h => h.1.trans hps.symm) fun cdv A outer s H vs Q E hg hr q => ⟨_, hbody cdv A outer s H E hg hr, ?_⟩
  obtain ⟨lv, Z, ss, F, S0, gs, sl, tn, many, rfl, hm, hl, q⟩ := q
  match vs, lv with
  | [v0, v1], _ =>
    obtain ⟨x0, hx0, _, r0⟩ := S0.sl 0 _ rfl
    obtain ⟨hF1, x1, hx1, r1⟩ := S0.sl 1 _ rfl
    cases hx0
    cases hx1
    have e1 := (Rep.int_inv r1).1
    subst e1
    obtain ⟨a, g, rfl, hF, hag, p1, p2⟩ := pot_inv r0
    have hst : L2.start N [.ref a, .int many] = [some (.ref a), some (.int many), none, none, none] := by
      unfold L2.start
      rw [hN]; rfl
    rw [hst]
    refine draw_run hag p1 p2 hl hm fun y gs' s' t' H' y0 ym hl' k1 k2 k3 => ?_
    have nz : ∀ b, b = a ∨ b = g → ¬ Z b := fun b hb => S0.zn 0 b (by rw [hF]; rcases hb with rfl | rfl <;> simp)
    have old : ∀ b o, H b = some o → H' b ≠ none := fun b o e nq => by
      by_cases h1 : b = a
      · subst h1; rw [k1] at nq; cases nq
      · by_cases h2 : b = g
        · subst h2; rw [k2] at nq; cases nq
        · rw [k3 b o h1 h2 e] at nq; cases nq
    refine q y gs' s' t' y0 ym hl' (.int y) H' Z (fun i => if i = 0 then [a, g] else []) [] ⟨fun b o e k => ?_, fun b h => ?_, fun i b hi => ?_, fun _ h => h, fun _ h => .inl h⟩ ?_ ⟨rfl, Rs.int y .nil⟩ Sep.nil GSub.nil
    · have ne : b ≠ a ∧ b ≠ g := by
        rcases k with k | k
        · constructor
          · rintro rfl; rw [p1] at e; cases e; exact k trivial
          · rintro rfl; rw [p2] at e; cases e; exact k trivial
        · have := k 0
          rw [hF] at this
          simp at this
          exact this
      exact k3 b o ne.1 ne.2 e
    · cases e : H b with
      | none => exact absurd e h
      | some o => exact old b o e
    · split at hi
      · exact .inl ⟨0, by rw [hF]; exact hi⟩
      · cases hi
    · refine ⟨rfl, fun i t e => ?_, fun i hi => ?_, fun i j b hij h1 h2 => ?_, fun i b h => ?_, fun b hb => ?_⟩
      · match i, e with
        | 0, e => cases e; exact ⟨.ref a, rfl, rfl, pot_mk hag k1 k2⟩
        | 1, e => cases e; exact rfl
      · show (if i = 0 then [a, g] else []) = []
        rw [if_neg]; intro e; subst e; simp at hi
      · by_cases e1 : i = 0
        · by_cases e2 : j = 0
          · exact hij (e1.trans e2.symm)
          · simp [e2] at h2
        · simp [e1] at h1
      · split at h
        · exact nz b (by simpa using h)
        · cases h
      · cases e : H b with
        | none => exact absurd e (S0.zh b hb)
        | some o => exact old b o e
end
end DL
end
section
set_option Elab.async false
set_option linter.all false
set_option maxRecDepth 100000
set_option maxHeartbeats 3900000
/-! DL22: rows of the draw's text in short. -/
namespace DL
open PySem PySem.Spec L2
section
variable {X : Cx} {c : Cn} {T : Txt} {W : WX} {N : List Str} {sc : Scope} {fx : Str → Bool} {tb : Tb} {e a b : Expr} {pos p p2 : Pos} {x : Str} {te ta tb' : TE} {t : TS}
theorem q_v {i : Nat} (B : BX X c T W N sc fx tb) (h : visC sc N i x = true) : PE X (.Name x pos) (tVar i) := by
  obtain ⟨v1, v2, v3, v4⟩ := B.cb.vis h
  exact pe_var v1 v2 v3 v4
theorem q_ix {k : Str} {j : Nat} (B : BX X c T W N sc fx tb) (h : visC sc N 0 x = true) : PE X (.Subscript (.Name x p) (.Constant (.str k) j p2) pos) (ixP k) := pe_ix (ix_get B.cb.hu) (q_v B h) pe_str (fun _ _ => rfl)
theorem q_set {i : Nat} {py : Pos} (B : BX X c T W N sc fx tb) (h : locC sc fx N i x = true) (he : PE X e te) (hs : swapsWith e (some (.Name x py)) pos.line X.env = pure false := by rfl) : PS X (.Assign [.Name x py] e pos) (tAsg te (gName i)) := by
  obtain ⟨h1, h2, h3⟩ := B.cb.loc h
  exact ps_set B.cb.ND h1 h2 he hs h3
theorem q_put {k : Str} {j : Nat} {po : Pos} (B : BX X c T W N sc fx tb) (h : visC sc N 0 x = true) (he : PE X e te) (hs : swapsWithSole [.Subscript (.Name x p) (.Constant (.str k) j p2) po] e pos.line X.env = pure false := by rfl)
    (hw : swappedStores [.Subscript (.Name x p) (.Constant (.str k) j p2) po] e X.env = pure none := by rfl) : PS X (.Assign [.Subscript (.Name x p) (.Constant (.str k) j p2) po] e pos) (tPut k te) :=
  ps_asg he (pg_sub (q_v B h) pe_str (set_dict (by have := B.cb.hu; omega))) hs hw
theorem q_int {q : Pos} (B : BX X c T W N sc fx tb) (hg : glC sc "int" = true) (ha : PE X e te) (he : starEach [e] X.env = (false, eval e X.env) :: starEach [] X.env := by rfl) : PE X (.Call (.Name "int" q) [e] [] pos) (tInt te) :=
  pe_callTy call_int1 (B.cb.gl hg).1 (B.cb.bl _ (by simp)) (by decide +kernel) (pa_cons ha pa_nil he) (by decide) (B.cb.gl hg).2 he rfl
theorem q_ne (B : BX X c T W N sc fx tb) (ha : PE X a ta) : PT X (.Compare a [.NotEq] [.List [] p] pos) (tTest (tOp (rNeD X.K) ta (tLst tNil))) := pt_cmpR (op_neD (by have := B.cb.hu; omega)) ha (pe_lst pa_nil) (by rfl)
theorem q_ge (ha : PE X a ta) (hb : PE X b tb') (hm : behindInMarks .GtE b = false := by exact nobehind _ (by decide) (by decide)) : PT X (.Compare a [.GtE] [b] pos) (tTest (tOp (rI0 fun i j => .bl (decide (j ≤ i))) ta tb')) := pt_cmpR op_ge ha hb hm
theorem q_pop {ap : Pos} (B : BX X c T W N sc fx tb) (h : visC sc N i x = true) (hline : (ap.endLine == pos.line) = true := by rfl) : PE X (.Call (.Attribute (.Name x p) "pop" ap) [] [] pos) (tBM0 X.K "list" rPop (tVar i)) := pe_bm0 PySem.F.plainAttrs_list PySem.F.slot_list_pop PySem.F.type_list_pop mt_pop (q_v B h) rfl hline
theorem q_app {po pc : Pos} (B : BX X c T W N sc fx tb) (h : visC sc N i x = true) (he : PE X e te) (hs : starEach [e] X.env = (false, eval e X.env) :: starEach [] X.env := by rfl)
    (hfew : ((backTo pc (starEach [e] X.env)).all (fun x => !x.1) && (backToKw pc (keywordEach [] X.env)).all (fun x => x.1.isSome)
      && decide (([e] : List Expr).length + ([] : List Keyword).length + (if ([] : List Keyword).isEmpty then 0 else 1) < 30)) = true := by rfl) (hline : (po.endLine == pc.line) = true := by rfl) :
    PS X (.Expr (.Call (.Attribute (.Name x p) "append" po) [e] [] pc) pos) (tDrop (tBM X.K "list" rAppend (tVar i) (tCons te tNil))) := ps_expr (pe_bm PySem.F.plainAttrs_list PySem.F.slot_list_append PySem.F.type_list_append mt_append (q_v B h) (pa_cons he pa_nil hs) rfl hfew hline hs rfl)
end
end DL
end
section
set_option Elab.async false
set_option linter.all false
set_option maxRecDepth 100000
set_option maxHeartbeats 3900000
/-! DL23: an own exception over ValueError whose __init__ says super().__init__(text), then sets one field. -/
namespace DL
open PySem PySem.Spec L2

/-- ValueError.__init__ bound to e, called -/
theorem call_mw {prog : Program} {w : World} {A : Around} {E : Value → Shared → Prop} {h : Heap} {g : Array GenState} {d : Drawn} {t : Nat} {os : OsState} {nm q : Str} {C N : Addr} {bs bm : List Value} {hd : Bool} {sn : List Str} {sub : List Value} {ab : Bool} {col : Option Bool} {dd : Option Addr} {k0 k1 k2 k3 k5 : Option Value}
    {u e t0 : Addr} {rest : List Value} {Q : Value → Shared → Prop} (hC : h.get? C = some (excClassObj nm q C N bs bm hd sn sub ab col dd k0 k1 k2 k3 k5 "ValueError.__new__")) (he : h.get? e = some (PySem.W.excObj C t0 none .none)) (hu : h.get? u = some (PySem.W.kxs_mw "ValueError.__init__" e)) (hr : rest.length ≤ sizeLine)
    (hq : ∀ h' t1, (∀ b o, b ≠ e → h.get? b = some o → h'.get? b = some o) → h'.get? e = some (PySem.W.excObj C t1 none .none) → Q .none ⟨h', g, d, t, os⟩) : wpAny (model prog w) A (call (.ref u) rest) Q E ⟨h, g, d, t, os⟩ := by
  refine wpAny_call (codeAny_of_tree ?_)  -- so
  show wpAny _ A.in1 (callAny (.ref u) ⟨rest, []⟩) _ _ _  -- so
  simp only [callAny]
  refine wpAny_bind (wpAny_load hu ?_)  -- so
  have yes : (Value.type "method-wrapper" == Value.type "method" || Value.type "method-wrapper" == Value.type "builtin_function_or_method" || Value.type "method-wrapper" == Value.type "method-wrapper") = true := by decide
  simp only [PySem.W.kxs_mw, yes, if_true]
  refine PySem.W.KFB.if_so (by decide) (wpAny_bind (PySem.W.check_bound_init PySem.F.excBase_ValueError.toExcCallFacts hC he rfl (wpAny_bind (wpAny_pure (wpAny_pure ?_)))))
  refine ⟨plainId_quiet PySem.F.excBase_ValueError.init.plain _, codeAny_builtin PySem.F.excBase_ValueError.initEntry ?_⟩
  exact PySem.W.exc_init_tree (cls := .ref C) (t0 := t0) (dv := none) (c2 := .none) (c3 := .none) (b4 := .bool false) he hr fun h' k ke _ => hq h' _ k ke

/-- what the written part says of such a class: its __init__ at fI (its own cell cc, its code cda), the field f -/
structure IniC (prog : Program) (K : PySem.W.Frag) (C fI cc cda : Addr) (q : Str) (st : Stmt) (f : Str) (fd : FuncData) : Prop where
  oex : OexC K C
  no : PySem.W.findIn K (.ref C) f = some none
  lk : ∃ (oc : Value) (od : Option Addr) (kV doc pm : Value) (an : Option Addr) (ct : Value) (osl : Array (Option Value)), fd = PySem.W.ksFn "__init__" q (defArgs st) (defBody st) (defScope st) .none kV doc pm an (.ref cda) ct cc ∧ K.lookup fI = some ⟨oc, od, .func fd, osl⟩
  code : PySem.W.codeIn K (.ref cda) q = true
  file : ∃ ccl cdd vs ccs fl tf, K.lookup cda = some ⟨ccl, cdd, .fields vs, ccs⟩ ∧ vs[2]? = some (.str fl tf) ∧ ((prog.main.file : Str) == fl) = true
  cell : ∃ cl cld csl, K.lookup cc = some ⟨cl, cld, .cell (some (.ref C)), csl⟩
  cls : ∃ cd, PySem.W.clsIn K C = some cd ∧ PySem.W.alongIn K "__init__" ((cd.mro.dropWhile (· != .ref C)).drop 1) = some (some (.builtin "ValueError.__init__"))
  self_ : PySem.W.mroIn K C (.ref C) = some true
  isI : PySem.W.mroIn K C (.type "ValueError") = some true
  any : PySem.W.nsIn K cStatics "thirdparty.any" = some none
  top : (prog.main.scope.names.lookup ("super" : Str)).isSome = false
/-- .. and its text -/
structure IniT (st : Stmt) (f : Str) : Prop where
  body : ∃ p0 p1 p2 msg k p3 p4 p5 p6 p7 p8 p9, defBody st = [.Expr (.Call (.Attribute (.Call (.Name "super" p0) [] [] p1) "__init__" p2) [.Constant (.str msg) k p3] [] p4) p5, .Assign [.Attribute (.Name "self" p6) f p7] (.Name f p8) p9] ∧ (p2.endLine == p4.line) = true
  kind : (defScope st).kind = .function
  co : (defScope st).isCoroutine = false
  gen : (defScope st).isGenerator = false
  sup : (defScope st).names.lookup ("super" : Str) = some .globalImplicit
  cls : (defScope st).names.lookup ("__class__" : Str) = some .free
  slf : (defScope st).names.lookup ("self" : Str) = some .local
  fld : (defScope st).names.lookup f = some .local
  nocell : ∀ y ∈ (defScope st).names, y.2 ≠ .cell
  only : ∀ y ∈ (defScope st).names, y.2 = .free → y.1 = "__class__"
  head : ∃ ar, ((defArgs st).posonlyargs ++ (defArgs st).args).head? = some ar ∧ ar.arg = "self"
  fself : f ≠ "self"
  fdb : (f == ("__debug__" : Str)) = false ∧ (f == ("__classdict__" : Str)) = false
/-- the promise of __init__ -/
def spIni (K : PySem.W.Frag) (C : Addr) (f : Str) : Sp := fun vs H Q _ => ∃ a x, vs = [.ref a, x] ∧ H a = some (exo a C none) ∧ ∀ dx, H dx = none → dx ≠ a → Q .non (upd (upd H dx (exd dx [(f, x)])) a (exo a C (some dx)))
section
variable {P : Program} {w : World} {K : PySem.W.Frag} {mg : Str → Option Value} {base : Heap}  -- so
theorem upd_id {H : Hp} {a : Addr} {o : HO} (h : H a = some o) : upd H a o = H := by
  funext b
  by_cases e : b = a
  · subst e; rw [upd_same, h]
  · rw [upd_ne e]
theorem fn_ini {C fI cc cda : Addr} {q : Str} {st : Stmt} {f : Str} {fd : FuncData} (I0 : IniC P K C fI cc cda q st f fd) (TT : IniT st f) (hs : mg "super" = none) : FnOk P w K mg base CX0 1 fI fd ["self", f] (spIni K C f) := by
  obtain ⟨oc, od, kV, doc, pm, an, ct, osl, rfl, lk⟩ := I0.lk
  obtain ⟨p0, p1, p2, msg, kk, p3, p4, p5, p6, p7, p8, p9, hbody, hline⟩ := TT.body
  refine ⟨fun vs H Q E h => by obtain ⟨_, _, rfl, _⟩ := h; rfl, fun A outer s H args us vs Q E hr e0 hb r hq => ?_⟩
  obtain ⟨a, x, rfl, ha, hq⟩ := hq
  have here : ∀ b o, base.get? b = some o → s.heap.get? b = some o := fun b o e => (e0.bs b o e).1
  have inK : K.In s.heap := e0.mod.kin.keeps here
  obtain ⟨v0, u, rfl, rv0, ru⟩ : ∃ v0 u, us = [v0, u] ∧ v0 = .ref a ∧ RelV x u := by
    cases r with
    | cons r1 r => cases r with
      | cons r2 r => cases r; exact ⟨_, _, rfl, r1, r2⟩
  subst rv0
  obtain ⟨ar, har, hae⟩ := TT.head
  let env : Env := PySem.W.ksEnv q (defScope st) s.heap.objs.size fI (.ref cda) cc
  refine PySem.ks_codeAny_call_defAt (binds := [("self", .ref a), (f, u)]) hr.depth (inK _ _ lk) rfl (e0.mod.nolimit.keeps here) (PySem.W.codeRec_of inK I0.code) rfl hb TT.nocell (fun y hy => ?_) (fun h₁ hns hk => ?_) TT.co TT.gen TT.kind
  · rcases List.mem_cons.mp hy with rfl | hy  -- so
    · exact TT.slf
    · rcases List.mem_cons.mp hy with rfl | hy  -- so
      · exact TT.fld
      · cases hy
  let X : Cx := { prog := P, w := w, K := K, mg := mg, base := base, A := A.deeper env, N := ["self", f], s_0 := s, H_0 := H, env := env, outer := outer, stack := env :: outer, ex := [], fn := fun _ => false, calm := true, pn := [], xe := fun _ _ => False }
  show PySem.wpAt (model P w) X.A (.func (defBody st) env) (execs (defBody st) env) _ _ _
  obtain ⟨cl, cld, csl, hcell⟩ := I0.cell
  have hsf : (("self" : Str) == f) = false := beq_eq_false_iff_ne.mpr (Ne.symm TT.fself)
  have hself : ([(f, u), (("self" : Str), Value.ref a)] : List (Str × Value)).lookup ("self" : Str) = some (.ref a) := by
    rw [List.lookup_cons, hsf]
    simp [List.lookup_cons]
  have cells : ∀ y b, env.cells.lookup y = some b → y = "__class__" ∧ b = cc := fun y b e => by
    have e : ([(("__class__" : Str), cc)] : List (Str × Addr)).lookup y = some b := e
    rw [List.lookup_cons] at e
    split at e
    · rename_i h; cases e; exact ⟨by simpa using h, rfl⟩
    · cases e
  have nb : ∀ (b : Addr), b ∉ X.ex := fun b h => (List.not_mem_nil h).elim
  have ccH : H cc = none := (e0.bs cc _ (e0.mod.kin _ _ hcell)).2
  have I1 : Inv X [] [some (.ref a), some x] H { s with heap := h₁, toks := s.toks + 2 } := by
    refine ⟨⟨e0.mod, TT.kind, rfl, rfl, Nat.le_refl _, fun y z b h1 h2 => ?_, fun y hy => ?_, fun y b h => (by cases h), fun _ => hr.hd, Around.frames_deeper e0.frames, .inr ⟨rfl, rfl⟩, fun b h => (nb b h).elim, e0.bs, e0.bsz, fun b _ _ => nb b, fun b h => (nb b h).elim, e0.funs, e0.frf⟩,
      rfl, e0.bare, Un.kept hk, ⟨_, hns, fun i y v h1 h2 h3 => ?_⟩, fun y b h => ?_, e0.hok.fresh (Nat.le_refl _), fun y b h => ?_, fun p hp => (List.not_mem_nil hp).elim, e0.hok.kept hk, rfl⟩
    · rw [(cells y b h1).1, (cells z b h2).1]
    · have hy : (defScope st).names.lookup y = some .cell ∨ (defScope st).names.lookup y = some .free := hy
      rcases hy with h | h
      · exact absurd rfl (TT.nocell _ (PySem.mem_of_lookup h))
      · have ey : y = "__class__" := TT.only _ (PySem.mem_of_lookup h) rfl
        exact ⟨cc, by rw [ey]; rfl⟩
    · match i, h1, h2 with
      | 0, h1, h2 =>
        cases h1; cases h2
        exact ⟨.ref a, rfl, .inl ⟨TT.slf, hself⟩⟩
      | 1, h1, h2 =>
        cases h1; cases h2
        refine ⟨u, ru, .inl ⟨TT.fld, ?_⟩⟩
        show ([(f, u), (("self" : Str), Value.ref a)] : List (Str × Value)).lookup f = _
        simp [List.lookup_cons]
    · rw [(cells y b h).2]; exact ⟨_, _, hk _ _ (inK _ _ hcell), rfl⟩
    · rw [(cells y b h).2]; exact ccH
  obtain ⟨cd, hcd, hal⟩ := I0.cls
  obtain ⟨ccl, cdd, vs0, ccs, fl, tf, hcode, hvs, hfile⟩ := I0.file
  obtain ⟨oD, hD1, hD2⟩ : ∃ oD, h₁.get? C = some oD ∧ oD.data = .cls cd := by
    unfold PySem.W.clsIn at hcd
    split at hcd
    · rename_i k1 k2 k3 k4 ho
      cases hcd
      exact ⟨_, hk _ _ (inK _ _ ho), rfl⟩
    · cases hcd
  obtain ⟨nm, q', N', bs, bm, sn, sub, ab, col, dd, k0, k1, k2, k3, k5, hC, hbm⟩ := I0.oex.cls
  rw [hbody]
  refine ks_wpAt_execs_cons ?_
  rw [exec_Expr env _ _ I1.quiet rfl]
  refine wpAt_bind (wpAt_of_wpAny (wpAny_standAt (wpAt_bind ?_)))
  obtain ⟨mb, hb1, hb2⟩ := e0.mod.blt
  have kb : ∀ b o, base.get? b = some o → h₁.get? b = some o := fun b o e => hk b o (here b o e)
  obtain ⟨t1, hat⟩ := exo_at I1.hok ha
  refine wpAt_bind (m := attributeBase (.Call (.Name "super" p0) [] [] p1) "__init__" env (eval (.Call (.Name "super" p0) [] [] p1) env))
    (f := fun ov => do standAt p2.atName; methodCall (.Call (.Name "super" p0) [] [] p1) "__init__" p2 p4 env ov (([.Constant (.str msg) kk p3] : List Expr).length + ([] : List Keyword).length) (backTo p4 (starEach [.Constant (.str msg) kk p3] env)) (backToKw p4 (keywordEach [] env))) ?_
  refine ks_wpAt_super_base (env := env) TT.sup TT.cls (by decide) rfl (hk _ _ (inK _ _ lk)) rfl har rfl (hk _ _ (inK _ _ hcode)) rfl hvs hfile I0.top ?_
  refine PySem.W.ks_loadName_global TT.kind TT.sup (Calls.loadGlobal_builtin (env := env) (e0.mod.glob.keeps kb) hs (hb1.keeps kb) ((hb2 _ (by decide)).trans (by decide +kernel)) ⟨rfl, ?_⟩)
  refine wpAny_loadName_free TT.kind TT.cls rfl ⟨_, hk _ _ (inK _ _ hcell), rfl⟩ ?_
  rw [hae]
  refine wpAny_loadName_local TT.kind TT.slf hns (v := .ref a) hself ?_
  refine ks_wpAny_isType_cls hD1 hD2 ⟨rfl, ?_⟩  -- so
  have inK1 : K.In h₁ := fun b o e => hk _ _ (inK b o e)
  refine ks_wpAny_call_super hD1 hD2 hat rfl (fun _ e => by cases e) (PySem.W.looks_mroIn inK1 I0.self_) (fun h2 e2 k2 => ?_)
  have I2 : Inv X [] [some (.ref a), some x] H ⟨h2, s.gens, s.drawn, s.toks + 2, s.os⟩ := I1.kept k2
  have inK2 : K.In h2 := fun b o e => k2 _ _ (inK1 b o e)
  refine wpAt_of_wpAny (wpAny_bind (wpAny_standAt ?_))
  unfold methodCall
  refine wpAny_bind (wpAny_holding ?_)  -- so
  show wpAny _ X.A (getMethod (.ref h₁.objs.size) "__init__" (do return (← importBound (.Call (.Name "super" p0) [] [] p1) env).getD true)) _ _ _
  obtain ⟨t2, hat2⟩ := exo_at I2.hok ha
  have inst : PySem.W.InstAt h2 a _ C none := ⟨hat2, rfl, rfl, trivial⟩
  refine PySem.W.kxs_getMethod PySem.W.kxs_ValueError e2 (PySem.W.looks_opaque inK2 I0.any) (fun A Q E s k q => wpAny_bind ((PySem.W.looks_clsIn inK2 hcd) A _ E s k (wpAny_pure q))) rfl inK2 hal (inst.type.andThen (PySem.W.looks_mroIn inK2 I0.isI)) (PySem.W.ks_ne inK2 inst hcd) rfl ?_
  have I3 : Inv X [] [some (.ref a), some x] H ⟨h2.push (PySem.W.kxs_mw "ValueError.__init__" a), s.gens, s.drawn, s.toks + 2 + 1, s.os⟩ := (I2.kept (t' := s.toks + 2 + 1) fun b o e => Heap.get?_push_of_some _ e)
  have I4 : Inv X [(h2.objs.size, PySem.W.kxs_mw "ValueError.__init__" a)] [some (.ref a), some x] H ⟨h2.push (PySem.W.kxs_mw "ValueError.__init__" a), s.gens, s.drawn, s.toks + 2 + 1, s.os⟩ := I3.pins_of fun p hp => by
    obtain rfl := List.mem_singleton.mp hp  -- so
    refine ⟨Heap.get?_push_size _ rfl, I2.hok.fresh (Nat.le_refl _), Nat.ne_of_gt I2.lt, I2.nofs (Nat.le_refl _), fun v e => by cases e⟩
  have hpos : methodCallPos (methodCallForm (([.Constant (.str msg) kk p3] : List Expr).length + ([] : List Keyword).length) (backTo p4 (starEach [.Constant (.str msg) kk p3] env)) (backToKw p4 (keywordEach [] env))) (.Call (.Name "super" p0) [] [] p1) env p2 p4 = pure p4 := by
    unfold methodCallPos
    rw [hline]
    simp
  rw [hpos]
  refine wpAny_bind (wpAny_pure ?_)  -- so
  show wpAny _ X.A (callWith p4 (.ref h2.objs.size) [] (backTo p4 (starEach [.Constant (.str msg) kk p3] env)) []) _ _ _
  refine PySem.W.kxs_callWith1 (i := "ValueError.__init__") (x := a) (u := h2.objs.size) (h₀ := base) (L := s.heap.objs.size) (news := [(h2.objs.size, PySem.W.kxs_mw "ValueError.__init__" a)]) (fun p hp => ?_) (by simp) ?_ rfl rfl
  · obtain rfl := List.mem_singleton.mp hp
    refine ⟨Heap.get?_push_size _ rfl, Nat.ne_of_gt I2.lt, ?_⟩
    cases z : base.get? h2.objs.size with
    | none => rfl
    | some o => exact absurd (Heap.lt_size (k2 _ _ (kb _ _ z))) (Nat.lt_irrefl _)
  have PA1 : PA X [.Constant (.str msg) kk p3] (tCons (tC (.str msg)) tNil) := pa_cons pe_str pa_nil
  refine thn ((PA1.run p4 _ _ _ _ (fun vs H' => H' = H ∧ vs.length = 1) I4 ⟨rfl, rfl⟩)) fun us s4 ⟨vs, H4, I5, rvs, eH, lv⟩ => ?_
  subst eH
  have hmw : s4.heap.get? h2.objs.size = some (PySem.W.kxs_mw "ValueError.__init__" a) := (I5.pin (h2.objs.size, PySem.W.kxs_mw "ValueError.__init__" a) (by simp)).1
  obtain ⟨t4, hat4⟩ := exo_at I5.hok ha
  have inK4 : K.In s4.heap := I5.kIn
  refine ⟨hmw, ?_⟩
  obtain ⟨h4, g4, d4, tk4, os4⟩ := s4
  have short : us.length ≤ sizeLine := by
    rw [← rvs.length, lv]
    decide
  refine call_mw (inK4 _ _ hC) hat4 hmw short fun h5 t5 k5 hat5 => ?_
  rw [dropValue_plain (by intro b e; cases e)]
  refine wpAt_of_wpAny (wpAny_pure ?_)
  have I6 : Inv X [] [some (.ref a), some x] H4 ⟨h5, g4, d4, tk4, os4⟩ := by
    have := (I5.pins_of (pins' := []) fun p hp => (List.not_mem_nil hp).elim).write (x := a) (e := a) (o := exo a C none) (h' := h5) (t' := tk4) (by rw [ha]; trivial) (.inl rfl) k5 ⟨_, hat5⟩ (exo_ok hat5)
    rw [upd_id ha] at this
    exact this
  refine wpAt_of_wpAny ?_
  have body2 : PSs X [.Assign [.Attribute (.Name "self" p6) f p7] (.Name f p8) p9] _ := pss_one (ps_ost (X := X) (pe_var (i := 0) rfl (.inl TT.slf)) (pe_var (i := 1) rfl (.inl TT.fld) TT.fdb.1 TT.fdb.2))
  refine wpAny_mono (body2.run [] _ _ _ { nx := fun _ H' => Q .non H', rt := fun _ _ => False } I6 ⟨x, rfl, .ref a, rfl, a, C, rfl, I0.oex, I0.no, .inl ⟨ha, fun dx n1 n2 => hq dx n1 n2⟩⟩) (fun fl s' hsp => ?_) fun _ _ h => h.elim
  cases fl with
  | next =>
    obtain ⟨σ', H', J, q⟩ := hsp
    exact ⟨.non, H', J.os, J.bare, J.base, J.hok, rfl, q⟩
  | ret u => obtain ⟨_, _, _, _, _, q⟩ := hsp; exact q.elim
  | brk => obtain ⟨_, _, _, q⟩ := hsp; exact q.elim
  | cont => obtain ⟨_, _, _, q⟩ := hsp; exact q.elim
end
end DL
end
section
set_option Elab.async false
set_option linter.all false
set_option maxRecDepth 100000
set_option maxHeartbeats 3900000
/-! DL24: raise, try. -/
namespace DL
open PySem PySem.Spec L2

/-- a class of the text that may be raised with one value -/
def RaM (P : Program) (K : PySem.W.Frag) (mg : Str → Option Value) (c : Cn) (i : Nat) (x : Str) : Prop :=
  ∃ C fI cc cda q st fd, mg x = some (.ref C) ∧ c.ca i = C ∧ IniC P K C fI cc cda q st (c.cf i) fd ∧ IniT st (c.cf i) ∧ PySem.W.findIn K (.ref C) "__init__" = some (some (.ref fI)) ∧ PySem.W.typeIn K (.ref fI) = some (.type "function") ∧ Binds K fd ["self", c.cf i] [] ∧ mg "super" = none
section
variable {X : Cx} {c : Cn} {m : Am} {T : Txt} {W : WX} {N : List Str} {sc scope : Scope} {fx : Str → Bool} {tb : Tb} {e a b d : Expr} {es : List Expr} {r ra : RE} {rs : List RE} {pos p p2 : Pos} {x : Str} {D : Ends}
  {σ σ' : L2.St} {H H' : Hp} {Z Z' : Zn} {F F' : Fs} {env env' : Env'}
theorem s_raise {i : Nat} (B : BX X c T W N sc fx tb) (R : RaM X.prog X.K X.mg c i x) (k0 : ∃ k, Room (k + 2) X.A) (hg : glC sc x = true) (he : PE X e (rdE c m T W r)) (hs : starEach [e] X.env = (false, eval e X.env) :: starEach [] X.env := by rfl) :
    PS X (.Raise (some (.Call (.Name x p) [e] [] p2)) none pos) (rdS c m T W (.rse i (some r))) := by
  obtain ⟨C, fI, cc, cda, q, st, fd, hm, hC, I0, TT, hi, ht, hb, hsup⟩ := R
  obtain ⟨k, hk⟩ := k0
  have F1 : FnOk X.prog X.w X.K X.mg X.base CX0 1 fI fd ["self", c.cf i] (spIni X.K C (c.cf i)) := fn_ini I0 TT hsup
  refine (ps_raise B.calm B.tk (pmk_oex I0.oex hi ht F1 (hk.mono (by omega)) hb .nil (fun _ _ _ _ _ _ _ h => h.elim) (B.cb.gl hg).1 hm (pa_cons he pa_nil hs) (B.cb.gl hg).2 hs rfl)).imp' fun D σ H h => ?_
  obtain ⟨env, Z, F, S, h⟩ := h
  simp only [wpS] at h
  refine ⟨env, Z, F, S, wpE_mono r env h (fun s e1 h1 y H1 Z1 F1' G E1 S1 t sp gs => ?_) fun x e h => KsD.exE h⟩
  split at h1
  · rename_i dd
    refine ⟨by show 1 ≤ 1000; decide, fun A hA => ⟨A, y, rfl, upd_same, fun dx n1 n2 => ?_⟩⟩
    have hdx : H1 dx = none := by rw [upd_ne n2] at n1; exact n1
    refine ⟨rfl, dx, [(c.cf i, y)], upd_same, by rw [upd_ne n2, upd_same], hdx, ?_⟩
    have eH : upd (del (upd (upd (upd H1 A (exo A C none)) dx (exd dx [(c.cf i, y)])) A (exo A C (some dx))) A) dx (.xd [(c.cf i, y)]) = upd H1 dx (.xd [(c.cf i, y)]) := by
      funext b
      by_cases h1 : b = dx
      · subst h1; rw [upd_same, upd_same]
      · rw [upd_ne h1, upd_ne h1]
        by_cases h2 : b = A
        · subst h2; rw [del_same, hA]
        · rw [del_ne h2, upd_ne h2, upd_ne h1, upd_ne h2]
    rw [eH]
    have gr := grow_upd (o := .xd [(c.cf i, y)]) hdx
    refine h1 (.ref C) (some dx) σ _ Z1 F1' (E1.trans (Ext.grow gr)) (S1.grow gr) ⟨by rw [← hC], dx, y, rfl, upd_same, ?_⟩ (Pin.refl _ _)
    exact Rs.grow t.2 gr
  · exact h1.elim
end

/-! ### try -/
abbrev Cls := Value × Option Nat × (Addr → Value → Option Addr → TS)
/-- the ends of a suite that names the exception -/
def endsAs (i : Nat) (D : Ends) : Ends := { nx := fun τ H => D.nx (τ.set i none) H, rt := D.rt, bk := fun τ H => D.bk (τ.set i none) H, ct := fun τ H => D.ct (τ.set i none) H }
def wTri (K : PySem.W.Frag) (Wout : WX) (D : Ends) : List Cls → WX
  | [] => Wout
  | (cl, o, ts) :: l => fun cls d σ H => ∃ b, PySem.W.exmOne K cls cl = some b ∧ (b = true → ∀ a, H a = none → match o with
      | none => ts a cls d D σ H
      | some i => ts a cls d (endsAs i D) (σ.set i (some (.ref a))) H) ∧ (b = false → wTri K Wout D l cls d σ H)
inductive HdsX (X : Cx) : List ExceptHandler → List Cls → Prop
  | nil : HdsX X [] []
  | cons {x : Str} {cl : Value} {o : Option Nat} {on : Option Str} {ts : Addr → Value → Option Addr → TS} {b0 : Stmt} {su : List Stmt} {np ps : Pos} {hds : List ExceptHandler} {l : List Cls} (hc : Names X x cl)
      (hn : match o, on with | none, none => True | some i, some n => X.N[i]? = some n ∧ X.env.kindOf n = some .local | _, _ => False)
      (hsu : ∀ (a : Addr) (oe : Obj) (cls : Value) (d : Option Addr) (pn : List (Addr × Obj)), Zc cls d oe → (∃ vs, oe.data = .fields vs) → PSs (X.suite a ((a, oe) :: pn)) (b0 :: su) (ts a cls d)) (r : HdsX X hds l) :
      HdsX X (.ExceptHandler (some (.Name x np)) on (b0 :: su) ps :: hds) ((cl, o, ts) :: l)
section
variable {X : Cx} {body : List Stmt} {h0 : ExceptHandler} {hds : List ExceptHandler} {l : List Cls} {pos : Pos} {tb : WX → TS} {Wout : WX}
theorem ps_tri (hst : X.stack = X.env :: X.outer) (hfr : X.env.frame = some X.env.locals) (hN : X.N.Nodup) (tk : Takes X Wout)
    (hb : ∀ (W : WX) (pn : List (Addr × Obj)) (xe : Value → Shared → Prop), Takes (X.tr pn xe) W → PassesOwn (model X.prog X.w) X.A X.env xe → PSs (X.tr pn xe) body (tb W))  -- so
    (hh : HdsX X (h0 :: hds) l) : PS X (.Try body (h0 :: hds) [] [] pos) (fun D σ H => tb (wTri X.K Wout D l) D σ H) := by
  refine ⟨fun pn0 s σ H D I h => ?_⟩
  have okX := I.ok
  have frames : X.A.frames = some (X.env :: X.outer) := okX.frames.trans (by rw [hst])
  let M := model X.prog X.w
  let catch_ : Value → Shared → Prop := fun e s₁ => wpAny M X.A (noteFrame e X.env) (fun _ s₂ => wpAny M X.A (setFlight e none) (fun _ s₃ => wpAny M X.A (handleBy e X.env (h0 :: hds)) (SP X pn0 D) X.xe s₃) X.xe s₂) X.xe s₁
  have caught : Takes (X.tr (X.pn ++ pn0) catch_) (wTri X.K Wout D l) := by
    rintro u s' ⟨a, B, sI, pq, τ, Hc, cls, d, rfl, J', nb, up, sky, na, os, ag, wsh⟩
    have J : Inv X pn0 τ Hc sI := J'.ofTry okX
    show wpAny M X.A (noteFrame (.ref a) X.env) _ _ _
    refine Sky.land Zc.steady frames hfr (show Sky B (X.env :: X.outer) a (Zc cls d) X.env.locals s'.heap by rw [← hst]; exact sky) fun h3 fl up3 => ?_
    have J3 : Inv X pn0 τ Hc { s' with heap := h3 } := J.landed nb fl.1 (up.trans up3) os ag
    obtain ⟨oe, vs, at3, z3, d3⟩ := fl.there
    have apart : a ∉ frs (X.env :: X.outer) := fun hm => by
      obtain ⟨_, o', e', hnf⟩ := fl.2.2.1.mem hm
      rw [at3] at e'; cases e'
      exact hnf _ d3
    have nL : a ≠ X.env.locals := fun z => apart (List.mem_filterMap.mpr ⟨X.env, List.mem_cons_self, by rw [hfr, z]⟩)
    have nF : a ∉ X.fs := fun hm => by  -- so
      obtain ⟨e, he, q⟩ := List.mem_filterMap.mp hm  -- so
      exact apart (List.mem_filterMap.mpr ⟨e, List.mem_cons_of_mem _ he, q⟩)
    have S3 := J3.suite at3 d3 na nL nF
    have each : ∀ {hs' : List ExceptHandler} {l' : List Cls}, HdsX X hs' l' → wTri X.K Wout D l' cls d τ Hc → wpAny M X.A (handleBy (.ref a) X.env hs') (SP X pn0 D) X.xe { s' with heap := h3 } := by
      intro hs' l' hk
      induction hk with
      | nil =>
        intro wsh
        refine wpAny_handleBy_nil ?_
        obtain ⟨_, _, _, oe', vs', T, oT, ts', f1, _, f2, f3, _⟩ := id fl
        unfold PySem.passOn
        refine wpAny_bind (wpAny_field f1 f2 f3 ?_)
        rw [if_neg (by simp : ¬ ((Value.ref T == Value.none) = true))]
        have go_ : wpAny M X.A (setFlight (.ref a) X.env.frame) (fun _ s4 => wpAny M X.A (throw (.ref a) : Sem Flow) (SP X pn0 D) X.xe s4) X.xe { s' with heap := h3 } := by
          rw [hfr]
          refine HandSPX.setFlight_upZ fl fun h4 hh4 up4 => wpAny_throw (tk _ _ ⟨a, B, sI, pn0, τ, Hc, cls, d, rfl, J, nb, (up.trans up3).trans up4, .inr (.inr (by rw [hst]; exact hh4)), na, os, ag, wsh⟩)
        first
          | exact wpAny_bind (wpAny_pure (wpAny_bind go_))
          | exact wpAny_bind go_
      | @cons x cl o on ts b0 su np ps hds2 l2 hc hn hsu r ih =>
        intro wsh
        obtain ⟨b, hb1, yes, no⟩ := wsh
        refine wpAny_handleBy_cons (codeAny_handlers_test ?_) (by intro q; cases q)  -- so
        have look : PySem.W.Looks M h3 (typeOf (.ref a)) cls := fun A Q E s k q => wpAny_typeOf_ref (k _ _ at3) (by rw [z3.1]; exact q)
        have name_ : ∀ {Q : Value → Shared → Prop} {E : Value → Shared → Prop}, Q cl { s' with heap := h3 } → wpAny M (X.A.mark (some (.ref a))) (eval (.Name x np) X.env) Q E { s' with heap := h3 } := fun {Q E} q => by
          obtain ⟨hg, hdb, hm | ⟨hm, hv, hnn⟩⟩ := hc
          · exact ld_glob (X := X.suite a ((a, oe) :: (X.pn ++ pn0))) S3 hg hm q hdb
          · exact ld_blt (X := X.suite a ((a, oe) :: (X.pn ++ pn0))) S3 hg hm hv q hnn hdb
        refine name_ ((PySem.W.exm_one (M := M) J3.kIn look hb1).here ?_)
        cases b with
        | false => exact ih (no rfl)
        | true =>
          have yes := yes rfl a na
          cases o with
          | none =>
            cases on with
            | some n => exact hn.elim
            | none =>
              refine codeAny_handlers_suite ?_  -- so
              refine HandSPX.lands_againZ fl fun h4 fl4 up4 => ?_
              have J4 : Inv X pn0 τ Hc { s' with heap := h4 } := J.landed nb fl4.1 ((up.trans up3).trans up4) os ag
              obtain ⟨oe4, vs4, at4, z4, d4⟩ := fl4.there
              refine wpAny_mono ((hsu a oe4 cls d (X.pn ++ pn0) z4 ⟨_, d4⟩).run [] _ _ Hc _ (J4.suite at4 d4 na nL nF) yes) (fun f s6 hsp => ?_) (fun _ _ z => z.elim)
              cases f with
              | next => obtain ⟨σ6, H6, S6, q6⟩ := hsp; exact ⟨_, _, S6.unsuite okX, q6⟩
              | brk => obtain ⟨σ6, H6, S6, q6⟩ := hsp; exact ⟨_, _, S6.unsuite okX, q6⟩
              | cont => obtain ⟨σ6, H6, S6, q6⟩ := hsp; exact ⟨_, _, S6.unsuite okX, q6⟩
              | ret u => obtain ⟨v6, σ6, H6, S6, r6, q6⟩ := hsp; exact ⟨_, _, _, S6.unsuite okX, r6, q6⟩
          | some i =>
            cases on with
            | none => exact hn.elim
            | some n =>
              refine codeAny_handlers_suite_as ?_  -- so
              refine HandSPX.lands_againZ fl fun h4 fl4 up4 => ?_
              have J4 : Inv X pn0 τ Hc { s' with heap := h4 } := J.landed nb fl4.1 ((up.trans up3).trans up4) os ag
              obtain ⟨oe4, vs4, at4, z4, d4⟩ := fl4.there
              refine store_ok (X := X.suite a ((a, oe4) :: (X.pn ++ pn0))) (v := .ref a) (J4.suite at4 d4 na nL nF) hN hn.1 (.inl hn.2) rfl (fun s5 S5 => ?_) (.inr hn.2)
              refine wpAny_mono ((hsu a oe4 cls d (X.pn ++ pn0) z4 ⟨_, d4⟩).run [] s5 _ Hc _ S5 yes) (fun f s6 hsp => ?_) (fun _ _ z => z.elim)
              have gone : ∀ {σ6 : L2.St} {H6 : Hp} {Q : Shared → Prop}, Inv (X.suite a ((a, oe4) :: (X.pn ++ pn0))) [] σ6 H6 s6 → (∀ s7, Inv X pn0 (σ6.set i none) H6 s7 → Q s7) →
                  wpAny M X.A (do bindName X.env n .none; unbindBehindTheSuite X.env n ps) (fun _ s7 => Q s7) X.xe s6 := fun {σ6 H6 Q} S6 hq => gone_ok (S6.unsuite okX) hN hn.1 hn.2 hq
              cases f with
              | next => obtain ⟨σ6, H6, S6, q6⟩ := hsp; exact gone S6 fun s7 J7 => ⟨_, _, J7, q6⟩
              | brk => obtain ⟨σ6, H6, S6, q6⟩ := hsp; exact gone S6 fun s7 J7 => ⟨_, _, J7, q6⟩
              | cont => obtain ⟨σ6, H6, S6, q6⟩ := hsp; exact gone S6 fun s7 J7 => ⟨_, _, J7, q6⟩
              | ret u => obtain ⟨v6, σ6, H6, S6, r6, q6⟩ := hsp; exact gone S6 fun s7 J7 => ⟨_, _, _, J7, r6, q6⟩
    exact each hh wsh
  refine wpAny_Try_except (wpAny_mono ((hb (wTri X.K Wout D l) (X.pn ++ pn0) catch_ caught PassesOwn.looking).run [] s σ H D (I.toTry _) h) (fun f s1 hsp => ?_) (fun e s1 he => he))
  cases f with
  | next => obtain ⟨σ', H', J, q⟩ := hsp; exact wpAny_execs_nil ⟨σ', H', J.ofTry okX, q⟩
  | brk => obtain ⟨σ', H', J, q⟩ := hsp; exact ⟨σ', H', J.ofTry okX, q⟩
  | cont => obtain ⟨σ', H', J, q⟩ := hsp; exact ⟨σ', H', J.ofTry okX, q⟩
  | ret u => obtain ⟨v, σ', H', J, r, q⟩ := hsp; exact ⟨v, σ', H', J.ofTry okX, r, q⟩
end
end DL
end
section
set_option Elab.async false
set_option linter.all false
set_option maxRecDepth 100000
set_option maxHeartbeats 3900000
/-! DL25: try, over data. -/
namespace DL
open PySem PySem.Spec L2

section
variable {X : Cx} {c : Cn} {m : Am} {T : Txt} {W : WX} {N : List Str} {sc scope : Scope} {fx : Str → Bool} {tb : Tb} {e a b d : Expr} {es : List Expr} {r ra : RE} {rs : List RE} {pos p p2 : Pos} {x : Str} {D : Ends}
  {σ σ' : L2.St} {H H' : Hp} {Z Z' : Zn} {F F' : Fs} {env env' : Env'}
/-- the exception at hand -/
def mX (m : Am) (a : Addr) (cls : Value) (d : Option Addr) : Am := { m with xa := some (a, cls, d) }
def tsOf (c : Cn) (m : Am) (T : Txt) (o : Option Nat) (q : List RS) : Addr → Value → Option Addr → TS := fun a cls d => rdSs c (match o with | some _ => mX m a cls d | none => m) T W0 q
def clsOf (c : Cn) (m : Am) (T : Txt) (hs : List (Nat × Option Nat × List RS)) : List Cls := hs.map fun h => (.ref (c.ca h.1), h.2.1, tsOf c m T h.2.1 h.2.2)
theorem sl_toX {i : Nat} {A : List Addr} {s : Sl} {a : Addr} {cls : Value} {d : Option Addr} (hxa : m.xa = none) (h : SlOk c m H Z σ i A s) : SlOk c (mX m a cls d) H Z σ i A s := by
  cases s with
  | x ex => obtain ⟨_, _, _, _, h1, _⟩ := h; rw [hxa] at h1; cases h1
  | _ => exact h
theorem sl_ofX {i : Nat} {A : List Addr} {s : Sl} {a : Addr} {cls : Value} {d : Option Addr} (hs : ∀ e, s ≠ .x e) (h : SlOk c (mX m a cls d) H Z σ i A s) : SlOk c m H Z σ i A s := by
  cases s with
  | x ex => exact absurd rfl (hs ex)
  | _ => exact h
theorem noX_get (h : noX env = true) {i : Nat} {s : Sl} (e : env[i]? = some s) : ∀ x, s ≠ .x x := fun x q => by
  subst q
  have := List.all_eq_true.mp h _ (List.mem_of_getElem? e)
  cases this
theorem st_ofX {a : Addr} {cls : Value} {d : Option Addr} {i : Nat} (S : StOk c (mX m a cls d) H Z σ env F) (hx : noX (env.set i .no) = true) : StOk c m H Z (σ.set i none) (env.set i .no) (fset F i []) where
  len := by rw [List.length_set, List.length_set]; exact S.len
  sl := fun j s e => by
    by_cases hj : j = i
    · subst hj
      have := get_set_same e
      subst this
      rw [fset_same]; exact rfl
    · have e' := e
      rw [List.getElem?_set_ne (Ne.symm hj)] at e'
      rw [fset_ne hj]
      exact (sl_ofX (noX_get hx e) (S.sl j s e')).stay (List.getElem?_set_ne (Ne.symm hj))
  out := fun j hj => by
    rw [List.length_set] at hj
    by_cases q : j = i
    · subst q; exact fset_same
    · rw [fset_ne q]; exact S.out j hj
  dis := fun j k b hjk h1 h2 => by
    by_cases q : j = i
    · subst q; rw [fset_same] at h1; cases h1
    · by_cases q2 : k = i
      · subst q2; rw [fset_same] at h2; cases h2
      · rw [fset_ne q] at h1; rw [fset_ne q2] at h2; exact S.dis j k b hjk h1 h2
  zn := fun j b h => by
    by_cases q : j = i
    · subst q; rw [fset_same] at h; cases h
    · rw [fset_ne q] at h; exact S.zn j b h
  zh := S.zh
theorem tri_read {hs : List (Nat × Option Nat × List RS)} {qb : List RS} (hK : c.K = X.K) (hxa : m.xa = none) (hsub : ∀ i, ∀ h ∈ hs, PySem.W.exmOne X.K (.ref (c.ca i)) (.ref (c.ca h.1)) = some (T.sub i h.1)) (h : rdS c m T W (.tri qb hs) D σ H) : rdSs c m T (wTri X.K W D (clsOf c m T hs)) qb D σ H := by
  obtain ⟨env, Z, F, S, h⟩ := h
  simp only [wpS] at h
  refine ⟨env, Z, F, S, wpSs_mono qb env (wpSs_lk qb env h) ⟨fun e q => q.2, fun s e q => q.2, fun x e1 hq cls d σ' H' Z' F' E' S' xo P' => ?_⟩⟩
  obtain ⟨l1, hq⟩ := hq
  clear h
  induction hs with
  | nil =>
    simp only [wpH] at hq
    exact hq cls d σ' H' Z' F' E' S' xo P'
  | cons hd hs ih =>
    obtain ⟨j, o, q⟩ := hd
    have ec : cls = .ref (c.ca x.c) := xo.1
    refine ⟨T.sub x.c j, by rw [ec]; exact hsub x.c _ List.mem_cons_self, fun hb A hA => ?_, fun hb => ih (fun i h hm => hsub i h (List.mem_cons_of_mem _ hm)) ?_⟩
    · simp only [wpH] at hq
      rw [if_pos hb] at hq
      cases o with
      | none =>
        exact ⟨e1, Z', F', S', wpSs_mono q e1 (show wpSs T q e1 _ from hq) ⟨(KsD.from E' l1 P').nx, (KsD.from E' l1 P').rt, fun _ _ h => h.elim⟩⟩
      | some i =>
        dsimp only at hq
        split at hq
        · rename_i e2 hs2
          obtain ⟨k1, rfl, t, k3, k4⟩ := setS_get hs2
          have hσ : i < σ'.length := by rw [← S'.len]; exact k1
          have S2 : StOk c (mX m A cls d) H' Z' (σ'.set i (some (.ref A))) (e1.set i (.x x)) (fset F' i []) := by
            have SX : StOk c (mX m A cls d) H' Z' σ' e1 F' := ⟨S'.len, fun j s e => sl_toX hxa (S'.sl j s e), S'.out, S'.dis, S'.zn, S'.zh⟩
            exact SX.put k1 Sep.nil ⟨rfl, A, cls, d, rfl, by simp [hσ], xo⟩
          have E2 : Ext H Z F H' Z' (fset F' i []) := E'.put GSub.nil
          have notw : ∀ j b n dd, env[j]? = some (.w b n dd) → j ≠ i := fun j b n dd q e => by
            subst e
            have := l1 _ _ _ _ q
            rw [k3] at this; cases this; cases k4
          have pin2 : ∀ {σ3 : L2.St} {e3 : Env'}, Pin (e1.set i (.x x)) (σ'.set i (some (.ref A))) σ3 → Pin env σ (σ3.set i none) := fun {σ3 e3} P3 j b n dd q => by
            have hj := notw j b n dd q
            have q2 : (e1.set i (.x x))[j]? = some (.w b n dd) := by rw [List.getElem?_set_ne (Ne.symm hj)]; exact l1 _ _ _ _ q
            rw [List.getElem?_set_ne (Ne.symm hj), P3 j b n dd q2, List.getElem?_set_ne (Ne.symm hj)]
            exact P' j b n dd q
          refine ⟨e1.set i (.x x), Z', fset F' i [], S2, wpSs_mono q _ hq ⟨fun e3 h3 σ3 H3 Z3 F3 E3 S3 P3 => ?_, fun s e3 h3 y σ3 H3 Z3 F3 G E3 S3 tt sp gs => ?_, fun _ _ h => h.elim⟩⟩
          · exact h3.2 (σ3.set i none) H3 Z3 (fset F3 i []) ((E2.trans E3).put GSub.nil) (st_ofX S3 h3.1) (pin2 (e3 := e3) P3)
          · obtain ⟨h4, h5⟩ := h3
            rw [Bool.and_eq_true] at h4
            obtain ⟨dv, hv⟩ := Option.isSome_iff_exists.mp h4.2
            refine h5 y (σ3.set i none) H3 Z3 (fset F3 i []) G ((E2.trans E3).put GSub.nil) (st_ofX S3 h4.1) (val_any tt hv) ⟨sp.z, fun b hb k hk => ?_⟩ (gs.back E2)
            by_cases e : k = i
            · subst e; rw [fset_same] at hk; cases hk
            · rw [fset_ne e] at hk; exact sp.f b hb k hk
        · exact hq.elim
    · simp only [wpH] at hq
      rw [if_neg (by rw [hb]; simp)] at hq
      exact hq
end
end DL
end
section
set_option Elab.async false
set_option linter.all false
set_option maxRecDepth 100000
set_option maxHeartbeats 3900000
/-! DL26: try, fields of a caught exception, keywords: the nodes. -/
namespace DL
open PySem PySem.Spec L2
section
variable {X : Cx} {c : Cn} {m : Am} {T : Txt} {W : WX} {N : List Str} {sc scope : Scope} {fx : Str → Bool} {tb : Tb} {e a b d : Expr} {es : List Expr} {r ra : RE} {rs : List RE} {pos p p2 : Pos} {x : Str} {D : Ends}
  {σ σ' : L2.St} {H H' : Hp} {Z Z' : Zn} {F F' : Fs} {env env' : Env'}
theorem BX.tr (B : BX X c T W N sc fx tb) {W' : WX} {pn : List (Addr × Obj)} {xe : Value → Shared → Prop} (tk : Takes (X.tr pn xe) W') (po : PassesOwn (model X.prog X.w) X.A X.env xe) : BX (X.tr pn xe) c T W' N sc fx tb where
  cb := ⟨B.cb.hf, B.cb.hK, B.cb.hN, B.cb.nd, B.cb.hs, B.cb.hu, B.cb.hg, B.cb.bl⟩
  calm := B.calm
  tk := tk
  po := po
  fn := fun p h => ⟨(B.fn p h).ex⟩
  fk := fun p h => ⟨(B.fk p h).ex⟩
  gc := B.gc
/-- an except suite -/
structure SX (X : Cx) (c : Cn) (N : List Str) (sc : Scope) (fx : Str → Bool) : Prop where
  cb : CB X c N sc fx
theorem BX.su (B : BX X c T W N sc fx tb) (A : Addr) (pn : List (Addr × Obj)) : SX (X.suite A pn) c N sc fx := ⟨⟨B.cb.hf, B.cb.hK, B.cb.hN, B.cb.nd, B.cb.hs, B.cb.hu, B.cb.hg, B.cb.bl⟩⟩
/-- what a clause says, checked -/
inductive HdsD (X : Cx) (c : Cn) (m : Am) (T : Txt) (N : List Str) (sc : Scope) (fx : Str → Bool) : List ExceptHandler → List (Nat × Option Nat × List RS) → Prop
  | nil : HdsD X c m T N sc fx [] []
  | cons0 {x : Str} {j : Nat} {b0 : Stmt} {su : List Stmt} {q : List RS} {np ps : Pos} {hds : List ExceptHandler} {hs : List (Nat × Option Nat × List RS)} (hc : Names X x (.ref (c.ca j)))
      (hsu : ∀ (a : Addr) (oe : Obj) (cls : Value) (d : Option Addr) (pn : List (Addr × Obj)), Zc cls d oe → (∃ vs, oe.data = .fields vs) → SX (X.suite a ((a, oe) :: pn)) c N sc fx → PSs (X.suite a ((a, oe) :: pn)) (b0 :: su) (rdSs c m T W0 q)) (r : HdsD X c m T N sc fx hds hs) :
      HdsD X c m T N sc fx (.ExceptHandler (some (.Name x np)) none (b0 :: su) ps :: hds) ((j, none, q) :: hs)
  | cons1 {x n : Str} {j i : Nat} {b0 : Stmt} {su : List Stmt} {q : List RS} {np ps : Pos} {hds : List ExceptHandler} {hs : List (Nat × Option Nat × List RS)} (hc : Names X x (.ref (c.ca j))) (hn : locC sc (fun _ => false) N i n = true)
      (hsu : ∀ (a : Addr) (oe : Obj) (cls : Value) (d : Option Addr) (pn : List (Addr × Obj)), Zc cls d oe → (∃ vs, oe.data = .fields vs) → SX (X.suite a ((a, oe) :: pn)) c N sc fx → PSs (X.suite a ((a, oe) :: pn)) (b0 :: su) (rdSs c (mX m a cls d) T W0 q)) (r : HdsD X c m T N sc fx hds hs) :
      HdsD X c m T N sc fx (.ExceptHandler (some (.Name x np)) (some n) (b0 :: su) ps :: hds) ((j, some i, q) :: hs)
theorem hds_x (B : BX X c T W N sc fx tb) {hds : List ExceptHandler} {hs : List (Nat × Option Nat × List RS)} (h : HdsD X c m T N sc fx hds hs) : HdsX X hds (clsOf c m T hs) := by
  induction h with
  | nil => exact .nil
  | cons0 hc hsu _ ih => exact .cons (o := none) (on := none) hc trivial (fun a oe cls d pn hz hv => hsu a oe cls d pn hz hv (B.su a _)) ih
  | cons1 hc hn hsu _ ih =>
    unfold locC at hn
    simp only [Bool.and_false, Bool.or_false, Bool.and_eq_true, decide_eq_true_eq] at hn
    exact .cons (o := some _) (on := some _) hc ⟨by rw [B.cb.hN]; exact hn.1, by show X.env.scope.names.lookup _ = _; rw [B.cb.hs]; exact hn.2⟩ (fun a oe cls d pn hz hv => hsu a oe cls d pn hz hv (B.su a _)) ih
theorem s_tri {body : List Stmt} {h0 : ExceptHandler} {hds : List ExceptHandler} {hs : List (Nat × Option Nat × List RS)} {qb : List RS} (B : BX X c T W N sc fx tb) (hst : X.stack = X.env :: X.outer) (hfr : X.env.frame = some X.env.locals) (hxa : m.xa = none)
    (hsub : ∀ i, ∀ h ∈ hs, PySem.W.exmOne X.K (.ref (c.ca i)) (.ref (c.ca h.1)) = some (T.sub i h.1)) (hb : ∀ (Y : Cx) (V : WX), BX Y c T V N sc fx tb → PSs Y body (rdSs c m T V qb)) (hh : HdsD X c m T N sc fx (h0 :: hds) hs) :
    PS X (.Try body (h0 :: hds) [] [] pos) (rdS c m T W (.tri qb hs)) :=
  (ps_tri (Wout := W) (tb := fun V => rdSs c m T V qb) hst hfr B.cb.ND B.tk (fun V pn xe tk po => hb _ V (B.tr tk po)) (hds_x B hh)).imp' fun D σ H h => tri_read B.cb.hK hxa hsub h
theorem e_fld {i k : Nat} {A : Addr} {oe : Obj} {cls : Value} {dd : Option Addr} {pn : List (Addr × Obj)} {f : Str} (S : SX (X.suite A ((A, oe) :: pn)) c N sc fx) (hv : visC sc N i x = true) (xf : XfC X.K (c.ca k)) (hno : PySem.W.findIn X.K (.ref (c.ca k)) f = some none) (hf : c.cf k = f) (hz : Zc cls dd oe) (hd : ∃ vs, oe.data = .fields vs) :
    PE (X.suite A ((A, oe) :: pn)) (.Attribute (.Name x p) f pos) (rdE c (mX m A cls dd) T W0 (.fld i k)) := by
  obtain ⟨v1, v2, v3, v4⟩ := S.cb.vis hv
  refine (pe_xf xf hno hz hd (pe_var v1 v2 v3 v4)).imp' fun σ H Q ⟨env, Z, F, St0, h⟩ => ?_
  simp only [wpE] at h
  split at h
  · rename_i e he
    split at h
    · rename_i dv hdv
      obtain ⟨hk, q⟩ := h
      obtain ⟨hF, a', cls', d', h1, h2, h3, h4⟩ := St0.sl i _ he
      cases h1
      rw [hdv] at h4
      obtain ⟨B, v, e1, e2, r⟩ := h4
      refine ⟨.ref A, h2, rfl, by rw [h3, hk], B, _, v, e1, e2, ?_, lit_fin St0 q r⟩
      rw [hk, hf]; simp [List.lookup_cons]
    · exact h.elim
  · exact h.elim
theorem n_callK (j : Nat) {i : Nat} {ks : List Str} {inv fwd : List Nat} {ws : List RE} {kws : List Keyword} (B : BX X c T W N sc fx tb) (hj : tb.fk[j]? = some (i, x, ks, inv)) (hg : glC sc x = true) (hp : rs.all puC = true) (hkw : PK X kws (tPus ws)) (hws : ws = fwd.map (rs.getD · (.lit .non)))
    (h1 : ∀ j ∈ fwd, j < rs.length) (h2 : ∀ j ∈ inv, j < fwd.length) (h3 : inv.map (fwd.getD · 0) = List.range rs.length) (hkl : ks.length = fwd.length)
    (hall : (backToKw pos (keywordEach kws X.env)).all (·.1.isSome) = true := by rfl) (hks : (backToKw pos (keywordEach kws X.env)).filterMap (·.1) = ks := by rfl)
    (hpl : ((backTo pos (starEach [] X.env)).any (·.1) || (backToKw pos (keywordEach kws X.env)).any (·.1.isNone)) = false := by exact rfl) :
    PE X (.Call (.Name x p) [] kws pos) (rdE c m T W (.call i rs)) := e_callK B.cb (B.fk _ (List.mem_of_getElem? hj)) B.tk hg hp hkw hws h1 h2 h3 hkl hall hks hpl
end
end DL
end
section
set_option Elab.async false
set_option linter.all false
set_option maxRecDepth 100000
set_option maxHeartbeats 3900000
/-! DL27: the text's exception classes: number, name, field. -/
namespace DL
open PySem PySem.Spec L2
abbrev Xl := List (Nat × Str × Option Str)
structure EM (P : Program) (K : PySem.W.Frag) (mg : Str → Option Value) (c : Cn) (T : Txt) (l : Xl) : Prop where
  nm : ∀ p ∈ l, mg p.2.1 = some (.ref (c.ca p.1))
  sub : ∀ i, ∀ p ∈ l, PySem.W.exmOne K (.ref (c.ca i)) (.ref (c.ca p.1)) = some (T.sub i p.1)
  cf : ∀ p ∈ l, ∀ f, p.2.2 = some f → c.cf p.1 = f
  xf : ∀ p ∈ l, p.2.2 ≠ none → XfC K (c.ca p.1) ∧ PySem.W.findIn K (.ref (c.ca p.1)) (c.cf p.1) = some none
  ra : ∀ p ∈ l, p.2.2 ≠ none → RaM P K mg c p.1 p.2.1
section
variable {X : Cx} {c : Cn} {m : Am} {T : Txt} {W : WX} {N : List Str} {sc scope : Scope} {fx : Str → Bool} {tb : Tb} {e a b d : Expr} {es : List Expr} {r ra : RE} {rs : List RE} {pos p p2 : Pos} {x : Str} {l : Xl}
theorem x_raise {i : Nat} {f : Str} (j : Nat) (B : BX X c T W N sc fx tb) (G : EM X.prog X.K X.mg c T l) (hj : l[j]? = some (i, x, some f)) (k0 : ∃ k, Room (k + 2) X.A) (hg : glC sc x = true) (he : PE X e (rdE c m T W r)) (hs : starEach [e] X.env = (false, eval e X.env) :: starEach [] X.env := by rfl) :
    PS X (.Raise (some (.Call (.Name x p) [e] [] p2)) none pos) (rdS c m T W (.rse i (some r))) := s_raise B (G.ra _ (List.mem_of_getElem? hj) (by simp)) k0 hg he hs
theorem x_names {i : Nat} {o : Option Str} (j : Nat) (B : CB X c N sc fx) (G : EM X.prog X.K X.mg c T l) (hj : l[j]? = some (i, x, o)) (hg : glC sc x = true) : Names X x (.ref (c.ca i)) :=
  ⟨(B.gl hg).1, (B.gl hg).2, .inl (G.nm _ (List.mem_of_getElem? hj))⟩
theorem x_tri {body : List Stmt} {h0 : ExceptHandler} {hds : List ExceptHandler} {hs : List (Nat × Option Nat × List RS)} {qb : List RS} (B : BX X c T W N sc fx tb) (G : EM X.prog X.K X.mg c T l) (hst : X.stack = X.env :: X.outer) (hfr : X.env.frame = some X.env.locals) (hxa : m.xa = none)
    (hl : hs.all (fun h => l.any fun p => p.1 == h.1) = true) (hb : ∀ (Y : Cx) (V : WX), BX Y c T V N sc fx tb → PSs Y body (rdSs c m T V qb)) (hh : HdsD X c m T N sc fx (h0 :: hds) hs) :
    PS X (.Try body (h0 :: hds) [] [] pos) (rdS c m T W (.tri qb hs)) := s_tri B hst hfr hxa (fun i h hm => by
  have := List.all_eq_true.mp hl h hm
  obtain ⟨p, hp, e⟩ := List.any_eq_true.mp this
  have e : p.1 = h.1 := by simpa using e
  rw [← e]
  exact G.sub i p hp) hb hh
theorem x_fld {i k : Nat} {A : Addr} {oe : Obj} {cls : Value} {dd : Option Addr} {pn : List (Addr × Obj)} {f cn : Str} (j : Nat) (S : SX (X.suite A ((A, oe) :: pn)) c N sc fx) (G : EM X.prog X.K X.mg c T l) (hj : l[j]? = some (k, cn, some f)) (hv : visC sc N i x = true) (hz : Zc cls dd oe) (hd : ∃ vs, oe.data = .fields vs) :
    PE (X.suite A ((A, oe) :: pn)) (.Attribute (.Name x p) f pos) (rdE c (mX m A cls dd) T W0 (.fld i k)) := by
  have hm := List.mem_of_getElem? hj
  have hf := G.cf _ hm f rfl
  obtain ⟨h1, h2⟩ := G.xf _ hm (by simp)
  exact e_fld S hv h1 (by rw [← hf]; exact h2) hf hz hd
end
end DL
end
section
set_option Elab.async false
set_option linter.all false
set_option maxRecDepth 100000
set_option maxHeartbeats 3900000
/-! DL28: wp, evaluated. -/
namespace DL
open PySem PySem.Spec L2
section
variable {T : Txt} {env : Env'} {Q : QE} {X : QX} {K : Ks}
@[simp] theorem w_lit {d : D} : wpE T (.lit d) env Q X = Q (.v d) env := by first | (simp only [wpE]; done) | (simp only [wpE]; rfl)
@[simp] theorem w_glb {g : Nat} : wpE T (.glb g) env Q X = Q (.v (T.cst g)) env := by first | (simp only [wpE]; done) | (simp only [wpE]; rfl)
@[simp] theorem w_var {i : Nat} : wpE T (.var i) env Q X = match env[i]? with | some (.v d) => Q (.v d) env | some (.o _ d) => Q (.v d) (env.set i (.v d)) | _ => False := by first | (simp only [wpE]; done) | (simp only [wpE]; rfl)
@[simp] theorem w_mv {i : Nat} : wpE T (.mv i) env Q X = match env[i]? with | some (.v d) => Q (.v d) env | some (.o n d) => Q (.o n d) (env.set i .no) | _ => False := by first | (simp only [wpE]; done) | (simp only [wpE]; rfl)
@[simp] theorem w_pk {i : Nat} : wpE T (.pk i) env Q X = (okPk env i ∧ Q (.q i) env) := by first | (simp only [wpE]; done) | (simp only [wpE]; rfl)
@[simp] theorem w_fld {i k : Nat} : wpE T (.fld i k) env Q X = match env[i]? with | some (.x e) => (match e.a with | some d => e.c = k ∧ Q (.v d) env | none => False) | _ => False := by first | (simp only [wpE]; done) | (simp only [wpE]; rfl)
@[simp] theorem w_prim {p : Pr} {es : List RE} : wpE T (.prim p es) env Q X = wpEs T es env (fun ss e1 => primQ p e1 ss fun s => Q s e1) X := by first | (simp only [wpE]; done) | (simp only [wpE]; rfl)
@[simp] theorem w_chn {p q : Pr} {a b c : RE} : wpE T (.chn p q a b c) env Q X = wpE T a env (fun sa e1 => wpE T b e1 (fun sb e2 => primQ p e2 [sa, sb] fun s => match s with
      | .v (.bl true) => wpE T c e2 (fun sc e3 => primQ q e3 [sb, sc] fun s => Q s e3) X
      | .v (.bl false) => Q (.v (.bl false)) e2
      | _ => False) X) X := by first | (simp only [wpE]; done) | (simp only [wpE]; rfl)
@[simp] theorem w_bop {k : Bool} {es : List RE} : wpE T (.bop k es) env Q X = wpB T k es env Q X := by first | (simp only [wpE]; done) | (simp only [wpE]; rfl)
@[simp] theorem w_ifx {c a b : RE} : wpE T (.ifx c a b) env Q X = wpE T c env (fun s e1 => tstQ s e1 fun t => if t = true then wpE T a e1 Q X else wpE T b e1 Q X) X := by first | (simp only [wpE]; done) | (simp only [wpE]; rfl)
@[simp] theorem w_call {f : Nat} {es : List RE} : wpE T (.call f es) env Q X = wpEs T es env (fun ss e1 => callQ T f e1 ss Q X) X := by first | (simp only [wpE]; done) | (simp only [wpE]; rfl)
@[simp] theorem w_comp {own : List Nat} {tgt : Tg} {k : SrcK} {es ifs : List RE} {elt : RE} : wpE T (.comp own tgt k es ifs elt) env Q X = wpEs T es env (fun ss e1 => ownOk e1 own = true ∧ srcQ k e1 ss fun ds =>
      compW tgt own (fun e K => wpTs T ifs e K) (fun e K => wpE T elt e K fun _ _ => False) ds [] (locks e1 ss)
        fun acc e2 => Q (.o 0 (.lst acc)) (restore e1 (unlocks e1 e2 ss) own)) X := by first | (simp only [wpE]; done) | (simp only [wpE]; rfl)
@[simp] theorem w_nil {Q : List Sl → Env' → Prop} : wpEs T [] env Q X = Q [] env := by first | (simp only [wpEs]; done) | (simp only [wpEs]; rfl)
@[simp] theorem w_cons {e : RE} {es : List RE} {Q : List Sl → Env' → Prop} : wpEs T (e :: es) env Q X = wpE T e env (fun s e1 => wpEs T es e1 (fun ss e2 => Q (s :: ss) e2) X) X := by first | (simp only [wpEs]; done) | (simp only [wpEs]; rfl)
@[simp] theorem w_b1 {k : Bool} {e : RE} : wpB T k [e] env Q X = wpE T e env Q X := by first | (simp only [wpB]; done) | (simp only [wpB]; rfl)
@[simp] theorem w_b2 {k : Bool} {e e2 : RE} {es : List RE} : wpB T k (e :: e2 :: es) env Q X = wpE T e env (fun s e1 => tstQ s e1 fun t => if t = k then wpB T k (e2 :: es) e1 Q X else Q s e1) X := by rw [wpB]
@[simp] theorem w_t0 {Q : Bool → Env' → Prop} : wpTs T [] env Q = Q true env := by first | (simp only [wpTs]; done) | (simp only [wpTs]; rfl)
@[simp] theorem w_t1 {e : RE} {es : List RE} {Q : Bool → Env' → Prop} : wpTs T (e :: es) env Q = wpE T e env (fun s e1 => tstQ s e1 fun t => if t = true then wpTs T es e1 Q else Q false e1) fun _ _ => False := by first | (simp only [wpTs]; done) | (simp only [wpTs]; rfl)
@[simp] theorem w_asg {t : Tg} {e : RE} : wpS T (.asg t e) env K = wpE T e env (fun s e1 => asgQ t s e1 K.nx) K.ex := by first | (simp only [wpS]; done) | (simp only [wpS]; rfl)
@[simp] theorem w_par {is : List Nat} {es : List RE} : wpS T (.par is es) env K = wpEs T es env (fun ss e1 => match setAll is ss e1 with | some e2 => K.nx e2 | none => False) K.ex := by first | (simp only [wpS]; done) | (simp only [wpS]; rfl)
@[simp] theorem w_setx {i : Nat} {ix e : RE} : wpS T (.setx i ix e) env K = (okPk env i ∧ wpE T e env (fun s e1 => wpE T ix e1 (fun t e2 => match t.rz e2 with
      | some z => z.isFr = true ∧ modQ i e2 (fun n d => setxQ n d z.dat s) K.nx
      | none => False) K.ex) K.ex) := by first | (simp only [wpS]; done) | (simp only [wpS]; rfl)
@[simp] theorem w_app {i : Nat} {e : RE} : wpS T (.app i e) env K = (okL env i ∧ wpE T e env (fun s e1 => modQ i e1 (appQ s) K.nx) K.ex) := by first | (simp only [wpS]; done) | (simp only [wpS]; rfl)
@[simp] theorem w_ext {i : Nat} {e : RE} : wpS T (.ext i e) env K = (okL env i ∧ wpE T e env (fun s e1 => modQ i e1 (extQ s) K.nx) K.ex) := by first | (simp only [wpS]; done) | (simp only [wpS]; rfl)
@[simp] theorem w_exp {e : RE} : wpS T (.exp e) env K = wpE T e env (fun _ e1 => K.nx e1) K.ex := by first | (simp only [wpS]; done) | (simp only [wpS]; rfl)
@[simp] theorem w_ret {e : RE} : wpS T (.ret e) env K = wpE T e env (fun s e1 => retQ s e1 K.rt) K.ex := by first | (simp only [wpS]; done) | (simp only [wpS]; rfl)
@[simp] theorem w_ret0 : wpS T .ret0 env K = K.rt (.v .non) env := by first | (simp only [wpS]; done) | (simp only [wpS]; rfl)
@[simp] theorem w_pas : wpS T .pas env K = K.nx env := by first | (simp only [wpS]; done) | (simp only [wpS]; rfl)
@[simp] theorem w_iff {c : RE} {a b : List RS} : wpS T (.iff c a b) env K = wpE T c env (fun s e1 => tstQ s e1 fun t => if t = true then wpSs T a e1 K else wpSs T b e1 K) K.ex := by first | (simp only [wpS]; done) | (simp only [wpS]; rfl)
@[simp] theorem w_for {tgt : Tg} {k : SrcK} {es : List RE} {body : List RS} : wpS T (.for_ tgt k es body) env K = wpEs T es env (fun ss e1 => srcQ k e1 ss fun ds =>
      forW tgt (fun e N => wpSs T body e { K with nx := N }) ds (locks e1 ss) fun e2 => K.nx (unlocks e1 e2 ss)) K.ex := by first | (simp only [wpS]; done) | (simp only [wpS]; rfl)
@[simp] theorem w_rse0 {c : Nat} : wpS T (.rse c none) env K = K.ex ⟨c, none⟩ env := by first | (simp only [wpS]; done) | (simp only [wpS]; rfl)
@[simp] theorem w_rse1 {c : Nat} {e : RE} : wpS T (.rse c (some e)) env K = wpE T e env (fun s e1 => match s with | .v d => K.ex ⟨c, some d⟩ e1 | _ => False) K.ex := by first | (simp only [wpS]; done) | (simp only [wpS]; rfl)
@[simp] theorem w_tri {body : List RS} {hs : List (Nat × Option Nat × List RS)} : wpS T (.tri body hs) env K = wpSs T body env { K with ex := fun x e1 => wpH T hs x e1 K } := by first | (simp only [wpS]; done) | (simp only [wpS]; rfl)
@[simp] theorem w_s0 : wpSs T [] env K = K.nx env := by first | (simp only [wpSs]; done) | (simp only [wpSs]; rfl)
@[simp] theorem w_s1 {s : RS} {ss : List RS} : wpSs T (s :: ss) env K = wpS T s env { K with nx := fun e => wpSs T ss e K } := by first | (simp only [wpSs]; done) | (simp only [wpSs]; rfl)
end
/-! ### loops by an invariant -/
theorem forW_inv {tgt : Tg} {bd : Env' → (Env' → Prop) → Prop} (hm : ∀ e Q Q', bd e Q → (∀ e, Q e → Q' e) → bd e Q') (P : Nat → Env' → Prop) : ∀ (ds : List D) (k : Nat) (env : Env') {K : Env' → Prop}, P k env →
    (∀ i d e, ds[i]? = some d → P (k + i) e → ∃ e1, bindT tgt d e = some e1 ∧ bd e1 (P (k + i + 1))) → (∀ e, P (k + ds.length) e → K e) → forW tgt bd ds env K
  | [], k, env, K, h0, _, he => he env h0
  | d :: r, k, env, K, h0, hs, he => by
    unfold forW
    obtain ⟨e1, hb, h1⟩ := hs 0 d env rfl h0
    rw [hb]
    refine hm _ _ _ h1 fun e2 h2 => forW_inv hm P r (k + 1) e2 h2 (fun i d' e hd hp => ?_) fun e hp => he e ?_
    · have := hs (i + 1) d' e hd (by rw [show k + (i + 1) = k + 1 + i by omega]; exact hp)
      rw [show k + (i + 1) + 1 = k + 1 + i + 1 by omega] at this
      exact this
    · rw [show k + (d :: r).length = k + 1 + r.length by simp; omega]; exact hp
theorem compW_inv {tgt : Tg} {own : List Nat} {ts : Env' → (Bool → Env' → Prop) → Prop} {el : Env' → QE → Prop} (mt : ∀ e Q Q', ts e Q → (∀ b e, Q b e → Q' b e) → ts e Q') (me : ∀ e Q Q', el e Q → (∀ b e, Q b e → Q' b e) → el e Q') (P : Nat → List D → Env' → Prop) :
    ∀ (ds : List D) (k : Nat) (acc : List D) (env : Env') {K : List D → Env' → Prop}, P k acc env →
    (∀ i d a e, ds[i]? = some d → P (k + i) a e → ∃ e1, bindT tgt d (clr e own) = some e1 ∧ ts e1 fun b e2 => if b = true then el e2 fun s e3 => ∃ x, s.val = some x ∧ a.length < sizeLine ∧ P (k + i + 1) (a ++ [x]) e3 else P (k + i + 1) a e2) →
    (∀ a e, P (k + ds.length) a e → K a e) → compW tgt own ts el ds acc env K
  | [], k, acc, env, K, h0, _, he => he acc env h0
  | d :: r, k, acc, env, K, h0, hs, he => by
    unfold compW
    obtain ⟨e1, hb, h1⟩ := hs 0 d acc env rfl h0
    have hb' : bindT tgt d (own.foldl (fun e i => e.set i .no) env) = some e1 := hb
    rw [hb']
    have next : ∀ a e, P (k + 1) a e → compW tgt own ts el r a e K := fun a e hp => compW_inv mt me P r (k + 1) a e hp (fun i d' a' e' hd hp' => by
      have := hs (i + 1) d' a' e' hd (by rw [show k + (i + 1) = k + 1 + i by omega]; exact hp')
      rw [show k + (i + 1) + 1 = k + 1 + i + 1 by omega] at this
      exact this) fun a' e' hp' => he a' e' (by rw [show k + (d :: r).length = k + 1 + r.length by simp; omega]; exact hp')
    refine mt _ _ _ h1 fun b e2 h2 => iteM h2 (fun h2 => me _ _ _ h2 fun s e3 ⟨x, hx, hl, hp⟩ => ?_) fun h2 => next _ _ h2
    rw [hx]
    exact ⟨hl, next _ _ hp⟩
theorem rngD_len {a b : Int} : (rngD a b).length = (b - a).toNat := by simp [rngD]
theorem rngD_get {a b : Int} {i : Nat} {d : D} (h : (rngD a b)[i]? = some d) : d = .int (a + i) ∧ (i : Int) < b - a := by
  unfold rngD at h
  rw [List.getElem?_map] at h
  by_cases hi : i < (b - a).toNat
  · rw [List.getElem?_range hi] at h
    simp at h
    exact ⟨h.symm, by omega⟩
  · rw [List.getElem?_eq_none (by simp; omega)] at h
    cases h
end DL
end
section
set_option Elab.async false
set_option linter.all false
set_option maxRecDepth 100000
set_option maxHeartbeats 3900000
/-! DL29: wp's pieces, unfolded from the outside. -/
namespace DL
open PySem PySem.Spec L2
/-- what stands held is not looked into -/
structure Hd {α : Type} (a : α) : Type where
def hold {α : Type} (a : α) (h : Hd a) : α := a
theorem hold_eq {α : Type} {a : α} {h : Hd a} : hold a h = a := rfl
section
variable {T : Txt} {env : Env'} {Q : QE} {X : QX} {K : Ks} {P : D → Prop} {S : Sl → Prop}
theorem h_for {tgt : Tg} {k : SrcK} {es : List RE} {body : List RS} : wpS T (.for_ tgt k es body) env K = wpEs T es env (fun ss e1 => srcQ k e1 ss fun ds =>
      forW tgt (hold (fun e N => wpSs T body e { K with nx := N }) ⟨⟩) ds (locks e1 ss) (hold (fun e2 => K.nx (unlocks e1 e2 ss)) ⟨⟩)) K.ex := w_for
theorem h_comp {own : List Nat} {tgt : Tg} {k : SrcK} {es ifs : List RE} {elt : RE} : wpE T (.comp own tgt k es ifs elt) env Q X = wpEs T es env (fun ss e1 => ownOk e1 own = true ∧ srcQ k e1 ss fun ds =>
      compW tgt own (hold (fun e K => wpTs T ifs e K) ⟨⟩) (hold (fun e K => wpE T elt e K fun _ _ => False) ⟨⟩) ds [] (locks e1 ss)
        (hold (fun acc e2 => Q (.o 0 (.lst acc)) (restore e1 (unlocks e1 e2 ss) own)) ⟨⟩)) X := w_comp
theorem r_okPk {i : Nat} : okPk env i = match env[i]? with
  | some (.v _) => True
  | some (.o _ _) => True
  | some (.p _ _) => True
  | some (.w _ _ _) => True
  | _ => False := rfl
theorem r_okL {i : Nat} : okL env i = match env[i]? with
  | some (.o _ (.lst _)) => True
  | some (.p _ (.lst _)) => True
  | _ => False := rfl
theorem r_primQ {p : Pr} {ss : List Sl} : primQ p env ss S = match nestK p with
  | some ks => nestQ ks ss S
  | none => primQ.primQ0 p env ss S := rfl
theorem r_prim0 {p : Pr} {ss : List Sl} : primQ.primQ0 p env ss S = match rzs env ss with
  | some [] => pw p [] fun d => okr p [] d = true ∧ S (mkR p d)
  | some [z] => pw p [z.dat] fun d => okr p [z] d = true ∧ S (mkR p d)
  | some [z, y] => pw p [z.dat, y.dat] fun d => okr p [z, y] d = true ∧ S (mkR p d)
  | some [z, y, x] => pw p [z.dat, y.dat, x.dat] fun d => okr p [z, y, x] d = true ∧ S (mkR p d)
  | some zs => pw p (zs.map Rz.dat) fun d => okr p zs d = true ∧ S (mkR p d)
  | none => False := by
  unfold primQ.primQ0
  rcases rzs env ss with _ | (_ | ⟨_, _ | ⟨_, _ | ⟨_, _ | ⟨_, _⟩⟩⟩⟩) <;> rfl
theorem r_nestQ {ks : List Str} {ss : List Sl} : nestQ ks ss S = match nestDs ss with
  | some ds => ks.length = ds.length ∧ ks.Nodup ∧ ks.length ≤ 15 ∧ S (.o 1 (.dK ((ks.map Sum.inr).zip ds)))
  | none => False := rfl
theorem r_tstQ {s : Sl} {Q : Bool → Prop} : tstQ s env Q = match s.rz env with
  | some z => truQ z.dat Q
  | none => False := rfl
theorem r_truQ {d : D} {Q : Bool → Prop} : truQ d Q = match d with
  | .non => Q false
  | .bl b => Q b
  | .int i => Q (i != 0)
  | .str x => x.length ≤ sizeLine ∧ Q ((x.length : Int) != 0)
  | .lst xs => Q (!xs.isEmpty)
  | .tup xs => Q (!xs.isEmpty)
  | .dK xs => Q (!xs.isEmpty)
  | .dT _ => False
  | .scr _ => False := rfl
theorem r_asgN {i : Nat} {s : Sl} {Q : Env' → Prop} : asgQ (.nm i) s env Q = match s.val with
    | some _ => match setS env i s with | some e => Q e | none => False
    | none => False := rfl
theorem r_asgT {ts : List Tg} {s : Sl} {Q : Env' → Prop} : asgQ (.tp ts) s env Q = match s.val with
    | some d => match bindT (.tp ts) d env with | some e => Q e | none => False
    | none => False := rfl
theorem r_srcQ {k : SrcK} {ss : List Sl} {Q : List D → Prop} : srcQ k env ss Q = match rzs env ss with
  | some [z] => [z].all Rz.flat = true ∧ srcD k [z.dat] Q
  | some [z, y] => [z, y].all Rz.flat = true ∧ srcD k [z.dat, y.dat] Q
  | some [z, y, x] => [z, y, x].all Rz.flat = true ∧ srcD k [z.dat, y.dat, x.dat] Q
  | some zs => zs.all Rz.flat = true ∧ srcD k (zs.map Rz.dat) Q
  | none => False := by
  unfold srcQ
  rcases rzs env ss with _ | (_ | ⟨_, _ | ⟨_, _ | ⟨_, _ | ⟨_, _⟩⟩⟩⟩) <;> rfl
theorem r_srcS {d : D} {Q : List D → Prop} : srcD .seq [d] Q = match seqOf d with | some xs => Q xs | none => False := rfl
theorem r_srcR {d : D} {Q : List D → Prop} : srcD .rng [d] Q = match d with | .int j => -(2 ^ 62) ≤ j ∧ j < 2 ^ 62 ∧ Q (rngD 0 j) | _ => False := by cases d <;> rfl
theorem r_srcR2 {d e : D} {Q : List D → Prop} : srcD .rng [d, e] Q = match d, e with | .int i, .int j => (-(2 ^ 62) ≤ i ∧ i < 2 ^ 62 ∧ -(2 ^ 62) ≤ j ∧ j < 2 ^ 62) ∧ Q (rngD i j) | _, _ => False := by cases d <;> cases e <;> rfl
theorem r_setxQ {n : Nat} {d ix : D} {s : Sl} : setxQ n d ix s P = match s.val with
  | none => False
  | some x => (match n with | 0 => True | _ + 1 => imm x = true) ∧ match d, ix with
    | .lst xs, .int i => ∃ j, ixN xs.length i = some j ∧ hold (fun j => P (.lst (xs.set j x))) ⟨⟩ j
    | .dK kvs, k => ∃ k', keyOf k = some k' ∧ hold (fun k' => kvs.length < sizeLine ∧ P (.dK (putD kvs k' x))) ⟨⟩ k'
    | .dT kvs, .tup k => ∃ k', keysOf k = some k' ∧ hold (fun k' => kvs.length < sizeLine ∧ P (.dT (putD kvs k' x))) ⟨⟩ k'
    | _, _ => False := rfl
theorem r_modQ {i : Nat} {f : Nat → D → (D → Prop) → Prop} {K : Env' → Prop} : modQ i env f K = match env[i]? with
  | some (.o n d) => f n d fun d' => K (env.set i (.o n d'))
  | some (.p n d) => f n d fun d' => K (env.set i (.p n d'))
  | _ => False := rfl
theorem r_appQ {s : Sl} {n : Nat} {d : D} : appQ s n d P = match s.val, d with
  | some x, .lst xs => (match n with | 0 => True | _ + 1 => imm x = true) ∧ xs.length < sizeLine ∧ P (.lst (xs ++ [x]))
  | _, _ => False := rfl
theorem r_extQ {s : Sl} {n : Nat} {d : D} : extQ s n d P = match s.val, d with
  | some (.lst ys), .lst xs => (match n with | 0 => True | _ + 1 => imms ys = true) ∧ xs.length + ys.length ≤ sizeLine ∧ P (.lst (xs ++ ys))
  | _, _ => False := rfl
theorem r_retQ {s : Sl} : retQ s env Q = match s.val with
  | some _ => Q s env
  | none => False := rfl
theorem r_callQ {f : Nat} {ss : List Sl} : callQ T f env ss Q X = match argsS env (T.len f) ss with
  | none => False
  | some as => (lentOf (T.len f) ss).Nodup ∧ (∀ i ∈ lentOf (T.len f) ss, i ∉ namedOf (T.len f) ss) ∧
    (T.ctr f).run as (hold (fun s outs => outsOk (T.len f) outs = true ∧ (borrows env (T.len f) ss = true → s.clean = true ∧ ∀ t ∈ outs, t.clean = true) ∧ Q s (backs env (T.len f) ss outs)) ⟨⟩)
      (hold (fun e outs => outsOk (T.len f) outs = true ∧ (borrows env (T.len f) ss = true → (∀ d, e.a = some d → imm d = true) ∧ ∀ t ∈ outs, t.clean = true) ∧ X e (backs env (T.len f) ss outs)) ⟨⟩) := rfl
theorem f_no : Sl.no.free = true := rfl
theorem f_v {d : D} : (Sl.v d).free = true := rfl
theorem f_o {n : Nat} {d : D} : (Sl.o n d).free = true := rfl
/-! ### the operations -/
variable {x y : D}
theorem r_pAdd : pw .add [x, y] P = match x, y with
  | .int i, .int j => P (.int (i + j))
  | .str x, .str y => x.length + y.length ≤ sizeLine ∧ P (.str (x ++ y))
  | .tup xs, .tup ys => xs.length + ys.length ≤ sizeLine ∧ P (.tup (xs ++ ys))
  | .lst xs, .lst ys => xs.length + ys.length ≤ sizeLine ∧ P (.lst (xs ++ ys))
  | _, _ => False := by cases x <;> cases y <;> rfl
theorem r_pMul : pw .mul [x, y] P = match x, y with
  | .int i, .int j => MulOk i j ∧ P (.int (i * j))
  | .lst xs, .int k => -(2 ^ 63) ≤ k ∧ k < 2 ^ 63 ∧ xs.length * k.toNat ≤ sizeLine ∧ P (.lst (List.replicate k.toNat xs).flatten)
  | _, _ => False := by cases x <;> cases y <;> rfl
theorem r_p2I {C : Int → Int → Prop} {g : Int → Int → D} : p2I C g x y P = match x, y with
  | .int i, .int j => C i j ∧ P (g i j)
  | _, _ => False := by cases x <;> cases y <;> rfl
theorem r_sub : pw .sub [x, y] P = p2I (fun _ _ => True) (fun i j => .int (i - j)) x y P := rfl
theorem r_fdiv : pw .fdiv [x, y] P = p2I CDivW (fun i j => .int (i / j)) x y P := rfl
theorem r_mod : pw .mod [x, y] P = p2I (fun _ j => 0 < j) (fun i j => .int (i % j)) x y P := rfl
theorem r_pow : pw .pow [x, y] P = p2I CPow (fun i j => .int (i ^ j.toNat)) x y P := rfl
theorem r_le : pw .le [x, y] P = p2I (fun _ _ => True) (fun i j => .bl (decide (i ≤ j))) x y P := rfl
theorem r_gt : pw .gt [x, y] P = p2I (fun _ _ => True) (fun i j => .bl (decide (j < i))) x y P := rfl
theorem r_ge : pw .ge [x, y] P = p2I (fun _ _ => True) (fun i j => .bl (decide (j ≤ i))) x y P := rfl
theorem r_neg : pw .neg [x] P = match x with | .int i => P (.int (-i)) | _ => False := by cases x <;> rfl
theorem r_nt : pw .nt [x] P = truQ x fun b => P (.bl (!b)) := rfl
theorem r_eq : pw .eq [x, y] P = (eqOk x y = true ∧ P (.bl (PyData.eqv (py x) (py y)))) := rfl
theorem r_ne : pw .ne [x, y] P = (eqOk x y = true ∧ P (.bl (!(PyData.eqv (py x) (py y))))) := rfl
theorem r_lt : pw .lt [x, y] P = match x, y with
  | .int i, .int j => P (.bl (decide (i < j)))
  | .str x, .str y => P (.bl (decide (x.cps.toList < y.cps.toList)))
  | .tup xs, .tup ys => ∃ ns ms : List Int, xs = ns.map D.int ∧ ys = ms.map D.int ∧ P (.bl (HT.lexLt ns ms))
  | _, _ => False := by cases x <;> cases y <;> rfl
theorem r_idx : pw .idx [x, y] P = match x, y with
  | .lst xs, .int i => ∃ d, atI xs i = some d ∧ hold P ⟨⟩ d
  | .tup xs, .int i => ∃ d, atI xs i = some d ∧ hold P ⟨⟩ d
  | .str z, .int i => z.length ≤ sizeLine ∧ ∃ c, atI z.cps.toList i = some c ∧ hold (fun c => P (.str ⟨#[c]⟩)) ⟨⟩ c
  | .dK kvs, x => ∃ k, keyOf x = some k ∧ hold (fun k => ∃ d, look kvs k = some d ∧ hold P ⟨⟩ d) ⟨⟩ k
  | .dT kvs, .tup xs => ∃ k, keysOf xs = some k ∧ hold (fun k => ∃ d, look kvs k = some d ∧ hold P ⟨⟩ d) ⟨⟩ k
  | _, _ => False := by
  cases x <;> cases y <;> first | rfl | (apply propext; constructor <;> intro h <;> (first | (obtain ⟨k, d, h1, h2, h3⟩ := h; exact ⟨k, h1, d, h2, h3⟩) | (obtain ⟨k, h1, d, h2, h3⟩ := h; exact ⟨k, d, h1, h2, h3⟩)))
theorem some_hold {α : Type} {a : α} {P : α → Prop} {h : Hd P} : (∃ d, some a = some d ∧ hold P h d) = P a := propext ⟨fun ⟨_, h, p⟩ => Option.some.inj h ▸ p, fun p => ⟨a, rfl, p⟩⟩
theorem int_inj : ∀ {a b : List Int}, a.map D.int = b.map D.int → a = b
  | [], [], _ => rfl
  | x :: xs, y :: ys, h => by
    injection h with h1 h2
    injection h1 with h1
    rw [h1, int_inj h2]
  | [], _ :: _, h => by cases h
  | _ :: _, [], h => by cases h
theorem ints_hold {a : List Int} {k : List Int → Prop} {h : Hd k} : (∃ ns : List Int, a.map D.int = ns.map D.int ∧ hold k h ns) = k a := propext ⟨fun ⟨_, e, p⟩ => int_inj e ▸ p, fun p => ⟨a, rfl, p⟩⟩
theorem r_pSl {lo hi : Option Int} : pSl lo hi x P = match x with
  | .lst xs => P (.lst (cut xs lo hi))
  | .tup xs => P (.tup (cut xs lo hi))
  | .scr ns => P (.lst (cut (ns.map D.int) lo hi))
  | _ => False := by cases x <;> rfl
theorem r_sl00 : pw (.slc false false) [x] P = pSl none none x P := rfl
theorem r_sl10 : pw (.slc true false) [x, y] P = match y with | .int i => pSl (some i) none x P | _ => False := by cases y <;> rfl
theorem r_sl01 : pw (.slc false true) [x, y] P = match y with | .int i => pSl none (some i) x P | _ => False := by cases y <;> rfl
theorem r_rev : pw .rev [x] P = match x with | .lst xs => P (.lst xs.reverse) | _ => False := by cases x <;> rfl
theorem r_len : pw .len [x] P = match x with
  | .lst xs => P (.int xs.length)
  | .tup xs => P (.int xs.length)
  | .str x => x.length ≤ sizeLine ∧ P (.int x.length)
  | .dK xs => P (.int xs.length)
  | .dT xs => P (.int xs.length)
  | .scr ns => P (.int ns.length)
  | _ => False := by cases x <;> rfl
theorem r_abs : pw .abs [x] P = match x with | .int i => P (.int (if i < 0 then -i else i)) | _ => False := by cases x <;> rfl
theorem r_min2 : pw .min2 [x, y] P = match x, y with | .int i, .int j => P (.int (if j < i then j else i)) | _, _ => False := by cases x <;> cases y <;> rfl
theorem r_max2 : pw .max2 [x, y] P = match x, y with | .int i, .int j => P (.int (if j > i then j else i)) | _, _ => False := by cases x <;> cases y <;> rfl
theorem r_sum : pw .sum [x] P = pInts x fun ns => P (.int ns.sum) := rfl
theorem r_all : pw .all_ [x] P = pBls x fun bs => P (.bl (bs.all id)) := rfl
theorem r_any : pw .any_ [x] P = pBls x fun bs => P (.bl (bs.any id)) := rfl
theorem r_pInts {k : List Int → Prop} : pInts x k = match x with
  | .lst xs => ∃ ns : List Int, xs = ns.map D.int ∧ hold k ⟨⟩ ns
  | _ => False := rfl
theorem r_pBls {k : List Bool → Prop} : pBls x k = match x with
  | .lst xs => ∃ bs : List Bool, xs = bs.map D.bl ∧ hold k ⟨⟩ bs
  | _ => False := rfl
theorem r_int : pw .int_ [x] P = match x with | .int i => P (.int i) | .bl b => P (.int (if b then 1 else 0)) | _ => False := by cases x <;> rfl
theorem r_bool : pw .bool_ [x] P = match x with | .int i => P (.bl (i != 0)) | .bl b => P (.bl b) | _ => False := by cases x <;> rfl
theorem r_str : pw .str_ [x] P = match x with | .int i => i.natAbs.log2 < 1920 ∧ P (.str (toString i)) | .str x => P (.str x) | _ => False := by cases x <;> rfl
theorem r_repr : pw .repr_ [x] P = (plain x = true ∧ (py x).showable = true ∧ (py x).depth ≤ 60 ∧ (py x).shown.length ≤ sizeLine ∧ P (.str (py x).shown)) := rfl
theorem r_tuple : pw .tuple [x] P = match x with | .lst xs => P (.tup xs) | .tup xs => P (.tup xs) | _ => False := by cases x <;> rfl
theorem r_list : pw .list [x] P = match x with | .lst xs => P (.lst xs) | .tup xs => P (.lst xs) | _ => False := by cases x <;> rfl
theorem r_tupD {xs : List D} : pw .tupD xs P = (xs.length ≤ sizeLine ∧ P (.tup xs)) := rfl
theorem r_lstD {xs : List D} : pw .lstD xs P = (xs.length ≤ sizeLine ∧ P (.lst xs)) := rfl
theorem r_dK0 : pw .dK0 [] P = P (.dK []) := rfl
theorem r_dT0 : pw .dT0 [] P = P (.dT []) := rfl
end
/-! ### loops -/
theorem for_inv {T : Txt} {tgt : Tg} {body : List RS} {rt : QE} {ex : QX} {ds : List D} {env : Env'} {K : Env' → Prop} {h1 : Hd fun e N => wpSs T body e ⟨N, rt, ex⟩} {h2 : Hd K} (P : Nat → Env' → Prop) (h0 : P 0 env)
    (hs : ∀ i d e, ds[i]? = some d → P i e → ∃ e1, bindT tgt d e = some e1 ∧ wpSs T body e1 ⟨P (i + 1), rt, ex⟩) (he : ∀ e, P ds.length e → K e) : forW tgt (hold (fun e N => wpSs T body e ⟨N, rt, ex⟩) h1) ds env (hold K h2) := by
  refine forW_inv (bd := fun e N => wpSs T body e ⟨N, rt, ex⟩) (fun e Q Q' h k => wpSs_mono (K' := ⟨Q', rt, ex⟩) _ _ h ⟨k, fun _ _ q => q, fun _ _ q => q⟩) P ds 0 env h0 (fun i d e hd hp => ?_) fun e hp => he e (by rw [Nat.zero_add] at hp; exact hp)
  rw [Nat.zero_add] at hp ⊢
  exact hs i d e hd hp
theorem comp_inv {T : Txt} {tgt : Tg} {own : List Nat} {ifs : List RE} {elt : RE} {ds : List D} {env : Env'} {K : List D → Env' → Prop} {h1 : Hd fun e K => wpTs T ifs e K} {h2 : Hd fun e K => wpE T elt e K fun _ _ => False} {h3 : Hd K} (P : Nat → List D → Env' → Prop) (h0 : P 0 [] env)
    (hs : ∀ i d a e, ds[i]? = some d → P i a e → ∃ e1, bindT tgt d (clr e own) = some e1 ∧ wpTs T ifs e1 fun b e2 => if b = true then wpE T elt e2 (fun s e3 => ∃ x, s.val = some x ∧ a.length < sizeLine ∧ P (i + 1) (a ++ [x]) e3) (fun _ _ => False) else P (i + 1) a e2)
    (he : ∀ a e, P ds.length a e → K a e) : compW tgt own (hold (fun e K => wpTs T ifs e K) h1) (hold (fun e K => wpE T elt e K fun _ _ => False) h2) ds [] env (hold K h3) := by
  refine compW_inv (ts := fun e K => wpTs T ifs e K) (el := fun e K => wpE T elt e K fun _ _ => False) (fun e Q Q' h k => wpTs_mono _ _ h k) (fun e Q Q' h k => wpE_mono _ _ h (fun s e q => k s e q) fun _ _ q => q) P ds 0 [] env h0 (fun i d a e hd hp => ?_) fun a e hp => he a e (by rw [Nat.zero_add] at hp; exact hp)
  rw [Nat.zero_add] at hp ⊢
  exact hs i d a e hd hp
end DL
end
section
set_option Elab.async false
set_option linter.all false
set_option maxRecDepth 100000
set_option maxHeartbeats 3900000
/-! DL30: comprehensions item by item; places of lists. -/
namespace DL
open PySem PySem.Spec L2
theorem comp_map {T : Txt} {tgt : Tg} {own : List Nat} {elt : RE} {ds : List D} {env : Env'} {K : List D → Env' → Prop} {h1 : Hd fun e K => wpTs T [] e K} {h2 : Hd fun e K => wpE T elt e K fun _ _ => False} {h3 : Hd K} (f : Nat → D → D) (I : Nat → Env' → Prop) (h0 : I 0 env) (hl : ds.length ≤ sizeLine)
    (hs : ∀ i d e, ds[i]? = some d → I i e → ∃ e1, bindT tgt d (clr e own) = some e1 ∧ wpE T elt e1 (fun s e3 => s.val = some (f i d) ∧ I (i + 1) e3) (fun _ _ => False))
    (he : ∀ e, I ds.length e → K (ds.mapIdx f) e) : compW tgt own (hold (fun e K => wpTs T [] e K) h1) (hold (fun e K => wpE T elt e K fun _ _ => False) h2) ds [] env (hold K h3) := by
  refine comp_inv (fun k a e => a = (ds.take k).mapIdx f ∧ k ≤ ds.length ∧ I k e) ⟨rfl, Nat.zero_le _, h0⟩ ?_ ?_
  · rintro i d a e hd ⟨rfl, hk, hi⟩
    obtain ⟨e1, hb, h⟩ := hs i d e hd hi
    refine ⟨e1, hb, ?_⟩
    have hlt : i < ds.length := (List.getElem?_eq_some_iff.mp hd).1
    simp only [w_t0, if_true]
    refine wpE_mono elt e1 h (fun s e3 q => ⟨_, q.1, by rw [List.length_mapIdx, List.length_take]; omega, ?_, hlt, q.2⟩) fun _ _ q => q
    rw [List.take_add_one, hd, List.mapIdx_append]
    simp [Nat.min_eq_left hk]
  · rintro a e ⟨rfl, _, hi⟩
    rw [List.take_length]
    exact he e hi
/-- .. where what comes hangs on the item alone -/
theorem comp_map' {T : Txt} {tgt : Tg} {own : List Nat} {elt : RE} {ds : List D} {env : Env'} {K : List D → Env' → Prop} {h1 : Hd fun e K => wpTs T [] e K} {h2 : Hd fun e K => wpE T elt e K fun _ _ => False} {h3 : Hd K} (f : D → D) (I : Env' → Prop) (h0 : I env) (hl : ds.length ≤ sizeLine)
    (hs : ∀ d e, d ∈ ds → I e → ∃ e1, bindT tgt d (clr e own) = some e1 ∧ wpE T elt e1 (fun s e3 => s.val = some (f d) ∧ I e3) (fun _ _ => False))
    (he : ∀ e, I e → K (ds.map f) e) : compW tgt own (hold (fun e K => wpTs T [] e K) h1) (hold (fun e K => wpE T elt e K fun _ _ => False) h2) ds [] env (hold K h3) :=
  comp_map (fun _ => f) (fun _ => I) h0 hl (fun i d e hd hi => hs d e (List.mem_of_getElem? hd) hi) fun e hi => by
    have : ds.mapIdx (fun _ => f) = ds.map f := by
      apply List.ext_getElem (by simp)  -- so
      intro i h1 h2
      simp
    rw [this]; exact he e hi
/-- .. with a test -/
theorem comp_filter {T : Txt} {tgt : Tg} {own : List Nat} {c elt : RE} {ds : List D} {env : Env'} {K : List D → Env' → Prop} {h1 : Hd fun e K => wpTs T [c] e K} {h2 : Hd fun e K => wpE T elt e K fun _ _ => False} {h3 : Hd K} (p : D → Bool) (f : D → D) (I : Env' → Prop) (h0 : I env) (hl : ds.length ≤ sizeLine)
    (hs : ∀ d e, d ∈ ds → I e → ∃ e1, bindT tgt d (clr e own) = some e1 ∧ wpE T c e1 (fun s e2 => tstQ s e2 fun t => t = p d ∧ if t = true then wpE T elt e2 (fun s e3 => s.val = some (f d) ∧ I e3) (fun _ _ => False) else I e2) fun _ _ => False)
    (he : ∀ e, I e → K ((ds.filter p).map f) e) : compW tgt own (hold (fun e K => wpTs T [c] e K) h1) (hold (fun e K => wpE T elt e K fun _ _ => False) h2) ds [] env (hold K h3) := by
  refine comp_inv (fun k a e => a = ((ds.take k).filter p).map f ∧ I e) ⟨rfl, h0⟩ ?_ ?_
  · rintro i d a e hd ⟨rfl, hi⟩
    obtain ⟨e1, hb, h⟩ := hs d e (List.mem_of_getElem? hd) hi
    refine ⟨e1, hb, ?_⟩
    have hlt : i < ds.length := (List.getElem?_eq_some_iff.mp hd).1
    have le : (((ds.take i).filter p).map f).length < sizeLine := by
      rw [List.length_map]
      exact Nat.lt_of_le_of_lt (List.length_filter_le _ _) (by rw [List.length_take]; omega)
    simp only [w_t1, w_t0]
    refine wpE_mono c e1 h (fun s e2 q => tstQ_mono q fun t q => ?_) fun _ _ q => q
    obtain ⟨rfl, q⟩ := q
    have tk : ds.take (i + 1) = ds.take i ++ [d] := by rw [List.take_add_one, hd]; rfl
    by_cases hp : p d = true
    · rw [if_pos hp] at q ⊢
      rw [if_pos trivial]
      refine wpE_mono elt e2 q (fun s e3 q => ⟨_, q.1, le, ?_, q.2⟩) fun _ _ q => q
      rw [tk, List.filter_append]
      simp [hp]
    · rw [if_neg hp] at q ⊢
      refine ⟨?_, q⟩
      rw [tk, List.filter_append]
      simp [hp]
  · rintro a e ⟨rfl, hi⟩
    rw [List.take_length]
    exact he e hi
/-! ### places -/
theorem ixN_nat {n i : Nat} (h : i < n) : ixN n (i : Int) = some i := by
  unfold ixN
  rw [if_pos (by omega), if_pos (by omega)]  -- so
  simp
theorem atI_nat {α : Type} {xs : List α} {i : Nat} (h : i < xs.length) : atI xs (i : Int) = some xs[i] := by
  unfold atI
  rw [ixN_nat h]
  exact List.getElem?_eq_getElem h
theorem atI_int {p : List Int} {i : Nat} (h : i < p.length) : atI (p.map D.int) (i : Int) = some (.int (p.getD i 0)) := by
  unfold atI
  rw [List.length_map, ixN_nat h]
  simp [List.getElem?_eq_getElem h, List.getD]
theorem atI0 {α : Type} {x : α} {xs : List α} : atI (x :: xs) 0 = some x := by
  unfold atI ixN
  simp
theorem atI1 {α : Type} {x y : α} {xs : List α} : atI (x :: y :: xs) 1 = some y := by
  unfold atI ixN
  rw [if_pos (by decide), if_pos (by simp; omega)]
  rfl
theorem some_ex {α : Type} {a : α} {P : α → Prop} : (∃ d, some a = some d ∧ P d) ↔ P a := ⟨fun ⟨_, h, p⟩ => Option.some.inj h ▸ p, fun p => ⟨a, rfl, p⟩⟩
theorem getD_set {p : List Int} {i : Nat} {x : Int} : (p.map D.int).set i (.int x) = (p.set i x).map D.int := by rw [List.map_set]
theorem rngD_nat {n : Nat} : rngD 0 (n : Int) = (List.range n).map fun (i : Nat) => D.int (i : Nat) := by
  unfold rngD
  rw [show ((n : Int) - 0).toNat = n by omega]
  simp
theorem rngD_mem {a b : Int} {d : D} (h : d ∈ rngD a b) : ∃ i : Nat, d = .int (a + i) ∧ (i : Int) < b - a := by
  obtain ⟨i, hi⟩ := List.getElem?_of_mem h
  exact ⟨i, rngD_get hi⟩
theorem sl_le {n : Nat} (h : n ≤ 16777216) : n ≤ sizeLine := h
theorem sl_lt {n : Nat} (h : n < 16777216) : n < sizeLine := h
/-- the slots of a block, cleared -/
theorem clr_eq {e : Env'} {own : List Nat} : clr e own = own.foldl (fun e i => e.set i .no) e := rfl
end DL
namespace DL
open PySem PySem.Spec L2
/-! ### blocks with their ends apart -/
section
variable {T : Txt} {env : Env'} {n : Env' → Prop} {r : QE} {x : QX}
theorem k_asg {t : Tg} {e : RE} : wpS T (.asg t e) env ⟨n, r, x⟩ = wpE T e env (fun s e1 => asgQ t s e1 n) x := w_asg
theorem k_par {is : List Nat} {es : List RE} : wpS T (.par is es) env ⟨n, r, x⟩ = wpEs T es env (fun ss e1 => match setAll is ss e1 with | some e2 => n e2 | none => False) x := w_par
theorem k_setx {i : Nat} {ix e : RE} : wpS T (.setx i ix e) env ⟨n, r, x⟩ = (okPk env i ∧ wpE T e env (fun s e1 => wpE T ix e1 (fun t e2 => match t.rz e2 with
      | some z => z.isFr = true ∧ modQ i e2 (fun n d => setxQ n d z.dat s) n
      | none => False) x) x) := w_setx
theorem k_app {i : Nat} {e : RE} : wpS T (.app i e) env ⟨n, r, x⟩ = (okL env i ∧ wpE T e env (fun s e1 => modQ i e1 (appQ s) n) x) := w_app
theorem k_ext {i : Nat} {e : RE} : wpS T (.ext i e) env ⟨n, r, x⟩ = (okL env i ∧ wpE T e env (fun s e1 => modQ i e1 (extQ s) n) x) := w_ext
theorem k_exp {e : RE} : wpS T (.exp e) env ⟨n, r, x⟩ = wpE T e env (fun _ e1 => n e1) x := w_exp
theorem k_ret {e : RE} : wpS T (.ret e) env ⟨n, r, x⟩ = wpE T e env (fun s e1 => retQ s e1 r) x := w_ret
theorem k_ret0 : wpS T .ret0 env ⟨n, r, x⟩ = r (.v .non) env := w_ret0
theorem k_pas : wpS T .pas env ⟨n, r, x⟩ = n env := w_pas
theorem k_iff {c : RE} {a b : List RS} : wpS T (.iff c a b) env ⟨n, r, x⟩ = wpE T c env (fun s e1 => tstQ s e1 fun t => if t = true then wpSs T a e1 ⟨n, r, x⟩ else wpSs T b e1 ⟨n, r, x⟩) x := w_iff
theorem k_for {tgt : Tg} {k : SrcK} {es : List RE} {body : List RS} : wpS T (.for_ tgt k es body) env ⟨n, r, x⟩ = wpEs T es env (fun ss e1 => srcQ k e1 ss fun ds =>
      forW tgt (hold (fun e N => wpSs T body e ⟨N, r, x⟩) ⟨⟩) ds (locks e1 ss) (hold (fun e2 => n (unlocks e1 e2 ss)) ⟨⟩)) x := w_for
theorem k_rse0 {c : Nat} : wpS T (.rse c none) env ⟨n, r, x⟩ = x ⟨c, none⟩ env := w_rse0
theorem k_rse1 {c : Nat} {e : RE} : wpS T (.rse c (some e)) env ⟨n, r, x⟩ = wpE T e env (fun s e1 => match s with | .v d => x ⟨c, some d⟩ e1 | _ => False) x := w_rse1
theorem k_tri {body : List RS} {hs : List (Nat × Option Nat × List RS)} : wpS T (.tri body hs) env ⟨n, r, x⟩ = wpSs T body env ⟨n, r, fun u e1 => wpH T hs u e1 ⟨n, r, x⟩⟩ := w_tri
theorem k_s0 : wpSs T [] env ⟨n, r, x⟩ = n env := w_s0
theorem k_s1 {s : RS} {ss : List RS} : wpSs T (s :: ss) env ⟨n, r, x⟩ = wpS T s env ⟨fun e => wpSs T ss e ⟨n, r, x⟩, r, x⟩ := w_s1
theorem k_whl {c : RE} {body : List RS} : wpS T (.whl c body) env ⟨n, r, x⟩ = ∃ I : Nat → Env' → Prop, (∃ m, I m env) ∧ ∀ m env, I m env →
      wpE T c env (fun s e1 => tstQ s e1 fun t => if t = true then wpSs T body e1 ⟨fun e2 => ∃ m', m' < m ∧ I m' e2, r, x⟩ else n e1) x := by first | (simp only [wpS]; done) | (simp only [wpS]; rfl)
theorem k_h0 {u : Ex} : wpH T [] u env ⟨n, r, x⟩ = x u env := by first | (simp only [wpH]; done) | (simp only [wpH]; rfl)
theorem k_h1 {u : Ex} {c : Nat} {i : Option Nat} {suite : List RS} {hs : List (Nat × Option Nat × List RS)} : wpH T ((c, i, suite) :: hs) u env ⟨n, r, x⟩ = if T.sub u.c c = true then (match i with
      | none => wpSs T suite env ⟨n, r, fun _ _ => False⟩
      | some i => match setS env i (.x u) with
        | some e => wpSs T suite e ⟨fun e2 => noX (e2.set i .no) = true ∧ n (e2.set i .no), fun s e2 => (noX (e2.set i .no) && s.val.isSome) = true ∧ r s (e2.set i .no), fun _ _ => False⟩
        | none => False)
    else wpH T hs u env ⟨n, r, x⟩ := by first | (simp only [wpH]; done) | (simp only [wpH]; rfl)
end
end DL
namespace DL
open PySem PySem.Spec L2
section
variable {a b c d e f g h : D}
theorem ln0 : (([] : List D).length ≤ sizeLine) = True := eq_true (by decide)
theorem ln1 : ([a].length ≤ sizeLine) = True := eq_true (by show 1 ≤ sizeLine; decide)
theorem ln2 : ([a, b].length ≤ sizeLine) = True := eq_true (by show 2 ≤ sizeLine; decide)
theorem ln3 : ([a, b, c].length ≤ sizeLine) = True := eq_true (by show 3 ≤ sizeLine; decide)
theorem ln4 : ([a, b, c, d].length ≤ sizeLine) = True := eq_true (by show 4 ≤ sizeLine; decide)
theorem ln5 : ([a, b, c, d, e].length ≤ sizeLine) = True := eq_true (by show 5 ≤ sizeLine; decide)
theorem ln6 : ([a, b, c, d, e, f].length ≤ sizeLine) = True := eq_true (by show 6 ≤ sizeLine; decide)
theorem ln7 : ([a, b, c, d, e, f, g].length ≤ sizeLine) = True := eq_true (by show 7 ≤ sizeLine; decide)
theorem ln8 : ([a, b, c, d, e, f, g, h].length ≤ sizeLine) = True := eq_true (by show 8 ≤ sizeLine; decide)
end
end DL
end
section
set_option Elab.async false
set_option linter.all false
set_option maxRecDepth 100000
set_option maxHeartbeats 3900000
/-! DL31: calls by their promises. -/
namespace DL
open PySem PySem.Spec L2
theorem hold_ap {α β : Type} {f : α → β} {h : Hd f} {a : α} : hold f h a = f a := rfl
theorem hold_pr {α : Type} {f : α → Prop} {h : Hd f} {a : α} : hold f h a = f a := rfl
def hasN (i : Nat) : List Nat → Bool
  | [] => false
  | j :: r => (i == j) || hasN i r
theorem hasN_mem {i : Nat} : ∀ {l : List Nat}, hasN i l = false ↔ i ∉ l
  | [] => by simp [hasN]
  | j :: r => by
    have := @hasN_mem i r
    simp only [hasN, Bool.or_eq_false_iff, this, List.mem_cons, not_or]
    simp
def lend1 : List Nat → List Nat → Bool
  | [], _ => true
  | i :: r, ns => !hasN i r && !hasN i ns && lend1 r ns
theorem lend1_ok : ∀ {r ns : List Nat}, lend1 r ns = true ↔ r.Nodup ∧ ∀ i ∈ r, i ∉ ns
  | [], ns => by simp [lend1]
  | i :: r, ns => by
    have := @lend1_ok r ns
    simp only [lend1, Bool.and_eq_true, Bool.not_eq_true', this, hasN_mem, List.nodup_cons, List.mem_cons, forall_eq_or_imp]
    constructor
    · rintro ⟨⟨h1, h2⟩, h3, h4⟩; exact ⟨⟨h1, h3⟩, h2, h4⟩
    · rintro ⟨⟨h1, h3⟩, h2, h4⟩; exact ⟨⟨h1, h2⟩, h3, h4⟩
def allClean : List Sl → Bool
  | [] => true
  | s :: r => s.clean && allClean r
theorem allClean_ok : ∀ {l : List Sl}, allClean l = true ↔ ∀ t ∈ l, t.clean = true
  | [] => by simp [allClean]
  | s :: r => by
    have := @allClean_ok r
    simp only [allClean, Bool.and_eq_true, this, List.mem_cons, forall_eq_or_imp]
def exClean (e : Ex) : Bool := match e.a with
  | some d => imm d
  | none => true
theorem exClean_ok {e : Ex} : exClean e = true ↔ ∀ d, e.a = some d → imm d = true := by
  unfold exClean
  split
  · rename_i d hd; rw [hd]; simp
  · rename_i hd; rw [hd]; simp
/-- one call's promise: its number, its way of lending -/
structure At (T : Txt) (i : Nat) (C : Ctr) (l : List Bool) : Prop where
  c : T.ctr i = C
  l : T.len i = l
/-- what a call asks -/
def callL (C : Ctr) (l : List Bool) (env : Env') (ss : List Sl) (Q : QE) (X : QX) : Prop := match argsS env l ss with
  | none => False
  | some as => lend1 (lentOf l ss) (namedOf l ss) = true ∧ C.run as
      (hold (fun s outs => outsOk l outs = true ∧ (if borrows env l ss = true then (s.clean && allClean outs) = true else True) ∧ Q s (backs env l ss outs)) ⟨⟩)
      (hold (fun e outs => outsOk l outs = true ∧ (if borrows env l ss = true then (exClean e && allClean outs) = true else True) ∧ X e (backs env l ss outs)) ⟨⟩)
theorem if_imp {c : Prop} [Decidable c] {P : Prop} : (c → P) = (if c then P else True) := by
  apply propext
  split <;> rename_i h <;> simp [h]
theorem At.call {T : Txt} {i : Nat} {C : Ctr} {l : List Bool} (h : At T i C l) {env : Env'} {ss : List Sl} {Q : QE} {X : QX} : callQ T i env ss Q X = callL C l env ss Q X := by
  unfold callL callQ
  rw [h.c, h.l]
  cases e : argsS env l ss with
  | none => rfl
  | some as =>
    show (_ ∧ _ ∧ _) = (_ ∧ _)
    rw [← and_assoc, ← lend1_ok]
    congr 2
    · funext s o
      simp only [hold, if_imp, ← allClean_ok, Bool.and_eq_true]
    · funext x o
      simp only [hold, if_imp, ← allClean_ok, ← exClean_ok, Bool.and_eq_true]
/-- .. reckoned -/
theorem r_callL {C : Ctr} {l : List Bool} {env : Env'} {ss : List Sl} {Q : QE} {X : QX} : callL C l env ss Q X = match argsS env l ss with
  | none => False
  | some as => lend1 (lentOf l ss) (namedOf l ss) = true ∧ C.run as
      (hold (fun s outs => outsOk l outs = true ∧ (if borrows env l ss = true then (s.clean && allClean outs) = true else True) ∧ Q s (backs env l ss outs)) ⟨⟩)
      (hold (fun e outs => outsOk l outs = true ∧ (if borrows env l ss = true then (exClean e && allClean outs) = true else True) ∧ X e (backs env l ss outs)) ⟨⟩) := rfl
end DL
namespace DL
theorem rep_flat {α : Type} {x : α} : ∀ n : Nat, (List.replicate n [x]).flatten = List.replicate n x
  | 0 => rfl
  | n + 1 => by simp only [List.replicate_succ, List.flatten_cons, rep_flat n]; rfl
end DL
end
section
set_option Elab.async false
set_option linter.all false
set_option maxRecDepth 100000
set_option maxHeartbeats 3900000
/-! DL32: comparisons of plain data. -/
namespace DL
open PySem PySem.Spec L2
section
variable {i j : Int} {a b : Bool} {s t : Str} {x : D}
theorem q_ii : eqOk (.int i) (.int j) = true := rfl
theorem q_ss : eqOk (.str s) (.str t) = true := rfl
theorem q_bb : eqOk (.bl a) (.bl b) = true := rfl
theorem v_ii : (py (.int i)).eqv (py (.int j)) = decide (i = j) := by
  simp only [py, PyData.eqv]
  rw [Bool.eq_iff_iff]; simp
theorem v_bb : (py (.bl a)).eqv (py (.bl b)) = (a == b) := by simp only [py, PyData.eqv]
theorem v_ss : (py (.str s)).eqv (py (.str t)) = decide (s = t) := by
  simp only [py, PyData.eqv]
  rw [Bool.eq_iff_iff]; simp
end
mutual
theorem eqv_self : ∀ d : PyData, d.hasDict = false → d.eqv d = true
  | .none, _ => by simp only [PyData.eqv]
  | .bool b, _ => by simp [PyData.eqv]  -- so
  | .int i, _ => by simp [PyData.eqv]  -- so
  | .str s, _ => by simp [PyData.eqv]
  | .list xs, h => by simp only [PyData.eqv]; exact eqvAll_self xs (by simpa [PyData.hasDict] using h)
  | .tuple xs, h => by simp only [PyData.eqv]; exact eqvAll_self xs (by simpa [PyData.hasDict] using h)
  | .dict _, h => by simp [PyData.hasDict] at h
theorem eqvAll_self : ∀ ds : List PyData, PyData.hasDictAll ds = false → PyData.eqvAll ds ds = true
  | [], _ => by simp only [PyData.eqvAll]
  | d :: ds, h => by
    simp only [PyData.hasDictAll, Bool.or_eq_false_iff] at h
    simp only [PyData.eqvAll, eqv_self d h.1, eqvAll_self ds h.2, Bool.and_self]
end
/-! ### data that may be shown -/
/-- what repr asks -/
structure Rp (x : D) : Prop where
  p : plain x = true
  s : (py x).showable = true
  d : (py x).depth ≤ 60
  l : (py x).shown.length ≤ sizeLine
/-- leaves of at most B signs, weight, depth -/
structure Shw (B w k : Nat) (x : D) : Prop where
  p : plain x = true
  s : (py x).showable = true
  l : (py x).leavesShort B = true
  w : (py x).weight ≤ w
  d : (py x).depth ≤ k
structure ShwAll (B w k : Nat) (ds : List D) : Prop where
  p : plains ds = true
  s : PyData.showableAll (pys ds) = true
  l : PyData.leavesShortAll B (pys ds) = true
  w : PyData.weightAll (pys ds) ≤ w
  d : PyData.depthAll (pys ds) ≤ k
theorem Shw.rp {B w k : Nat} {d : D} (h : Shw B w k d) (hB : 8 ≤ B) (hk : k ≤ 60) (hw : (B + 2) * w + B ≤ 16777216) : Rp d := by
  refine ⟨h.p, h.s, Nat.le_trans h.d hk, ?_⟩
  have h1 := PyData.shown_le B hB (py d) h.l
  have h2 := Nat.mul_le_mul_left (B + 2) h.w
  exact Nat.le_trans h1 (Nat.le_trans (Nat.add_le_add_right h2 B) hw)
theorem Shw.up {B w k w' k' : Nat} {d : D} (h : Shw B w k d) (hw : w ≤ w') (hk : k ≤ k') : Shw B w' k' d := ⟨h.p, h.s, h.l, Nat.le_trans h.w hw, Nat.le_trans h.d hk⟩
theorem ShwAll.up {B w k w' k' : Nat} {ds : List D} (h : ShwAll B w k ds) (hw : w ≤ w') (hk : k ≤ k') : ShwAll B w' k' ds := ⟨h.p, h.s, h.l, Nat.le_trans h.w hw, Nat.le_trans h.d hk⟩
theorem ShwAll.nil {B k : Nat} : ShwAll B 0 k [] := ⟨rfl, rfl, rfl, Nat.le_refl _, Nat.zero_le _⟩
theorem ShwAll.cons {B w v k : Nat} {d : D} {ds : List D} (h : Shw B w k d) (g : ShwAll B v k ds) : ShwAll B (w + 1 + v) k (d :: ds) where
  p := by simp only [plains, h.p, g.p, Bool.and_self]
  s := by simp only [pys, PyData.showableAll, h.s, g.s, Bool.and_self]
  l := by simp only [pys, PyData.leavesShortAll, h.l, g.l, Bool.and_self]
  w := by
    have := h.w
    have := g.w
    simp only [pys, PyData.weightAll]; omega
  d := by
    have := h.d
    have := g.d
    simp only [pys, PyData.depthAll]; omega
theorem ShwAll.map {α : Type} {f : α → D} {B w k : Nat} : ∀ {l : List α}, (∀ x ∈ l, Shw B w k (f x)) → ShwAll B (l.length * (w + 1)) k (l.map f)
  | [], _ => by simpa using ShwAll.nil
  | x :: l, h => by
    have := ShwAll.cons (h x (by simp)) (ShwAll.map (l := l) fun y hy => h y (by simp [hy]))
    rw [List.map_cons]
    exact this.up (by rw [List.length_cons, Nat.add_mul, Nat.one_mul]; omega) (Nat.le_refl _)
theorem ShwAll.of {B w k : Nat} {l : List D} (h : ∀ x ∈ l, Shw B w k x) : ShwAll B (l.length * (w + 1)) k l := by
  have := ShwAll.map (f := id) h
  rwa [List.map_id] at this
theorem Shw.tup {B w k : Nat} {ds : List D} (h : ShwAll B w k ds) : Shw B w (k + 1) (.tup ds) where
  p := by simp only [plain, h.p]
  s := by simp only [py, PyData.showable, h.s]
  l := by simp only [py, PyData.leavesShort, h.l]
  w := by have := h.w; simp only [py, PyData.weight]; omega
  d := by have := h.d; simp only [py, PyData.depth]; omega
theorem Shw.lst {B w k : Nat} {ds : List D} (h : ShwAll B w k ds) : Shw B w (k + 1) (.lst ds) where
  p := by simp only [plain, h.p]
  s := by simp only [py, PyData.showable, h.s]
  l := by simp only [py, PyData.leavesShort, h.l]
  w := by have := h.w; simp only [py, PyData.weight]; omega
  d := by have := h.d; simp only [py, PyData.depth]; omega
theorem log_le {n m : Nat} (h : n < 2 ^ m) (hm : 0 < m) : n.log2 < m := by
  rcases Nat.eq_zero_or_pos n with rfl | hp
  · simpa using hm
  · exact (Nat.log2_lt (by omega)).mpr h
theorem wt_int {i : Int} {m : Nat} (h : i.natAbs < 2 ^ m) : (PyData.int i).weight ≤ m := by
  simp only [PyData.weight]
  split
  · omega
  · rename_i hi
    have hi : i ≠ 0 := by simpa using hi
    have := (Nat.log2_lt (by omega)).mpr h
    omega
/-- a small number -/
theorem Shw.int {B : Nat} {i : Int} (hB : 13 ≤ B) (h : i.natAbs < 10 ^ 12) : Shw B 40 0 (.int i) where
  p := rfl
  s := by
    simp only [py, PyData.showable, decide_eq_true_eq]
    exact Nat.lt_trans (log_le (m := 40) (Nat.lt_trans h (by decide)) (by decide)) (by decide)
  l := by
    simp only [py, PyData.leavesShort, decide_eq_true_eq]
    exact Nat.le_trans (PyData.shown_int_le h) hB
  w := wt_int (m := 40) (Nat.lt_trans h (by decide))
  d := Nat.le_refl _
theorem Shw.none {B : Nat} : Shw B 0 0 .non := ⟨rfl, rfl, rfl, Nat.le_refl _, Nat.le_refl _⟩
theorem Shw.bl {B : Nat} {b : Bool} : Shw B 0 0 (.bl b) := ⟨rfl, rfl, rfl, Nat.le_refl _, Nat.le_refl _⟩
/-- a list of one, shown -/
theorem shown_one {d : D} : (py (.lst [d])).shown = "[" ++ (py d).shown ++ "]" := by
  simp only [py, pys, PyData.shown, PyData.shownAll, listText, textFrom]
  rfl
end DL
end
section
set_option Elab.async false
set_option linter.all false
set_option maxRecDepth 100000
set_option maxHeartbeats 3900000
/-! DL33: the law's end. -/
namespace DL
open PySem PySem.Spec L2 PyProof.Rows

/-- what the caller of the law sees -/
def LawEnd (s1 : Shared) : Result → Shared → Prop := fun r s' => r = .ok (.ret (.bool true)) ∧ OldK s1.heap s'.heap ∧ s'.os = s1.os ∧ AllBare s'.gens
section
variable {P : Program} {w : World} {K : PySem.W.Frag} {mg mb : Str → Option Value} {k : Nat} {f a : Addr} {fd : FuncData} {x : Str} {sp : Sp} {s1 : Shared} {us : List Value} {ns : List Int}
/-- the top's facts behind the script's hiding -/
theorem law_env {H : Hp} (KX : K.In s1.heap) (g1 : s1.heap.Ns mainGlobals mg) (g2 : s1.heap.Ns builtinsNs mb) (g3 : ∀ x : Str, x ≠ "__name__" → mb x = bootBuiltins x) (g4 : s1.heap.NoLimit) (g5 : s1.gens = #[])
    (hs : s1.heap.get? a = some { cls := .type "list", data := .seq us.toArray }) (hok : HOk P w H s1.heap) (only : ∀ b, H b ≠ none → b = a) (nok : H a ≠ none → K.lookup a = none) :
    K.In (hidT s1.heap H) ∧ (hidT s1.heap H).Ns mainGlobals mg ∧ Env0 P w K mg (hidT s1.heap H) callerA [] s1 H := by
  have free : ∀ b, b ≠ a → H b = none := fun b hb => none_of fun q => hb (only b q)
  have dictFree : ∀ {b : Addr} {o : Obj} {es : Array DictEntry} {ep : Nat}, s1.heap.get? b = some o → o.data = .dict es ep → H b = none := fun {b o es ep} e1 e2 =>
    free b (fun eq => by
      rw [eq, hs] at e1
      have := Option.some.inj e1
      subst this
      exact nomatch e2)
  have ns' : ∀ {b : Addr} {q : Str → Option Value}, s1.heap.Ns b q → (hidT s1.heap H).Ns b q := by
    rintro b q ⟨o, es, ep, e1, e2, e3⟩
    exact ⟨o, es, ep, hidT_get e1 (dictFree e1 e2), e2, e3⟩
  have hK : K.In (hidT s1.heap H) := by
    intro b o e
    refine hidT_get (KX b o e) (none_of fun q => ?_)
    have eb := only b q
    subst eb
    rw [nok q] at e
    exact nomatch e
  obtain ⟨mc, l1, l2⟩ := g4
  refine ⟨hK, ns' g1, rfl, ⟨hK, ns' g1, ⟨mb, ns' g2, g3⟩, mc, ns' l1, l2⟩, fun b o e => of_hidT e, Nat.le_of_eq (hidT_size _ _), trivial, fun b hb => ?_, hok, .of_eq g5⟩
  have : b ∈ ([] : List Addr) := hb
  cases this
/-- the law's call by its promise -/
theorem law_g (KX : K.In s1.heap) (g1 : s1.heap.Ns mainGlobals mg) (g2 : s1.heap.Ns builtinsNs mb) (g3 : ∀ x : Str, x ≠ "__name__" → mb x = bootBuiltins x) (g4 : s1.heap.NoLimit) (g5 : s1.gens = #[])
    (hs : s1.heap.get? a = some { cls := .type "list", data := .seq us.toArray }) (hi : PyProof.Rows.IntsAre us ns) (hl : ns.length ≤ sizeLine) (hr : Room k callerA)
    (F : ∀ base : Heap, K.In base → base.Ns mainGlobals mg → FnG P w K mg base k f fd [x] sp) (hb : ∀ (s : Shared) (u : Value), BindsTo s fd ⟨[u], []⟩ [(x, u)])
    (hsp : ∀ H : Hp, Only H → SqS K H a (ns.map V.int) → sp [.ref a] H (fun v _ => v = .bl true) fun _ _ _ => False) :
    codeAny (model P w) callerA (.call (.ref f) ⟨[.ref a], []⟩) (LawEnd s1) s1 := by
  have rv := vals_ints hi
  have go : ∀ H : Hp, Only H → SqS K H a (ns.map V.int) → HOk P w H s1.heap → (∀ b, H b ≠ none → b = a) → (H a ≠ none → K.lookup a = none) → codeAny (model P w) callerA (.call (.ref f) ⟨[.ref a], []⟩) (LawEnd s1) s1 := by
    intro H hO hS hok h1 h2
    obtain ⟨b1, b2, b3⟩ := law_env KX g1 g2 g3 g4 g5 hs hok h1 h2
    have run := (F _ b1 b2).run callerA [] s1 H ⟨[.ref a], []⟩ [.ref a] [.ref a] _ _ rfl hr b3 (hb s1 (.ref a)) (.cons rfl .nil) (hsp H hO hS)
    refine codeAny_mono run fun r s' hq => ?_
    match r, hq with
    | .error e, hq =>
      obtain ⟨_, _, _, _, _, _, _, _, _, _, _, _, hq⟩ := hq
      exact hq.elim
    | .ok (.ret u), hq =>
      obtain ⟨v, H', hos, hbare, un, hok', hv, rfl⟩ := hq
      have hu : u = .bool true := hv
      subst hu
      refine ⟨rfl, .of_keep fun b o e => ?_, hos, hbare⟩
      rcases hO b with hn | ⟨ob, xs, hz⟩
      · refine un.keep b o e hn (fun hm => ?_) (by simp)
        have : b ∈ ([] : List Addr) := hm
        cases this
      · obtain ⟨q1, _⟩ := hok b _ hz
        obtain ⟨q2, _⟩ := hok' b _ (un.frzs b ob _ hz)
        rw [e] at q1
        have := Option.some.inj q1
        subst this
        exact q2
  cases hk : K.lookup a with
  | some o =>
    have e := KX a o hk
    rw [hs] at e
    have := Option.some.inj e
    subst this
    refine go (fun _ => none) (fun _ => .inl rfl) (.inr ⟨_, us.toArray, _, hk, rfl, rfl, rfl, ?_, by simpa using rv⟩) (fun b u z => nomatch z) (fun b z => absurd rfl z) fun z => absurd rfl z
    rw [List.size_toArray, hi.length]  -- so
    exact hl
  | none =>
    let o0 : Obj := { cls := .type "list", data := .seq us.toArray }
    let H0 : Hp := fun b => if b = a then some (.frz o0 (.lst (ns.map V.int))) else none
    have at_ : H0 a = some (.frz o0 (.lst (ns.map V.int))) := if_pos rfl
    have off : ∀ b, b ≠ a → H0 b = none := fun b hb => if_neg hb
    have is_ : ∀ b, H0 b ≠ none → b = a := fun b h => Decidable.byContradiction fun q => h (off b q)
    refine go H0 (fun b => ?_) (.inl ⟨o0, at_⟩) (fun b u z => ?_) is_ fun _ => hk
    · by_cases q : b = a
      · exact .inr ⟨_, _, q ▸ at_⟩
      · exact .inl (off b q)
    · have q := is_ b (by rw [z]; simp)
      subst q
      have z2 := at_.symm.trans z
      cases z2
      exact ⟨hs, by rw [List.length_map]; exact hl, us, _, rv, hs⟩
end
/-- the walk of a law -/
theorem walk_g {l : PySem.W.OpenLaw} {n k : Nat} {q : Program} {loose : List Str} {XP : (Str → Option Value) → Heap → Prop} {YP : World → Heap → Prop} {d : DefRec} {x : Str} (hn : l.most = some n) (h2 : n ≤ sizeLine) (hd : d.params.defaults = []) (hr : Room k callerA)
    (F : ∀ (w : World) (mg : Str → Option Value) (fa : Addr) (h : Heap), YP w h → h.Ns mainGlobals mg → mg d.name = some (.ref fa) →  -- so
      ∃ (K : PySem.W.Frag) (fd : FuncData) (sp : Sp), K.In h ∧ (∀ (s : Shared) (u : Value), BindsTo s fd ⟨[u], []⟩ [(x, u)]) ∧ (∀ (H : Hp) (a : Addr) (ns : List Int), ns.length ≤ n → Only H → SqS K H a (ns.map V.int) → sp [.ref a] H (fun v _ => v = .bl true) fun _ _ _ => False) ∧
        ∀ base : Heap, K.In base → base.Ns mainGlobals mg → FnG l.prog w K mg base k fa fd [x] sp) :
    PySem.W.WalkO q loose XP YP l.row.toRowW d [] fun f vs => PySem.call f vs :=
  Att.attach_call hn hd fun w _ s1 mg _ fa _ _ _ _ a us ns G Y _ _ _ hmg hs hi hl hg => by
    obtain ⟨K, fd, sp, KX, hb, hsp, hF⟩ := F w mg fa s1.heap Y G.T.g hmg
    exact law_g KX G.T.g G.T.b G.T.builtins G.T.nolimit hg hs hi (Nat.le_trans hl h2) hr hF hb fun H hO hS => hsp H a ns hl hO hS
/-- a promise over the script, called from outside -/
theorem law_sp {c : Cn} {C : Ctr} {H : Hp} {a : Addr} {ns : List Int} (hS : SqS c.K H a (ns.map V.int)) (h : C.run [.v (.scr ns)] (fun s _ => s = .v (.bl true)) fun _ _ => False) : spC c C 1 [.ref a] H (fun v _ => v = .bl true) fun _ _ _ => False := by
  refine ⟨rfl, fun _ => False, _, fun _ => [], ⟨rfl, fun i s e => ?_, fun _ _ => rfl, fun _ _ _ _ h => (by cases h), fun _ _ h => (by cases h), fun _ h => h.elim⟩, C.mono h (fun s o q v H' Z' F' G _ _ t _ _ => ?_) fun _ _ q => q.elim⟩
  · match i, e with
    | 0, e =>
      cases e
      exact ⟨rfl, .ref a, rfl, .scr hS .nil⟩
  · subst q
    exact (Rep.bl_inv t.2).1
end DL
end
section
set_option Elab.async false
set_option linter.all false
set_option maxRecDepth 100000
set_option maxHeartbeats 3900000
/-! DL34: blocks cut in two. -/
namespace DL
open PySem PySem.Spec L2
theorem wpSs_app {T : Txt} : ∀ {l1 l2 : List RS} {env : Env'} {n : Env' → Prop} {r : QE} {x : QX}, wpSs T l1 env ⟨fun e => wpSs T l2 e ⟨n, r, x⟩, r, x⟩ → wpSs T (l1 ++ l2) env ⟨n, r, x⟩
  | [], l2, env, n, r, x, h => by rw [k_s0] at h; exact h
  | s :: l1, l2, env, n, r, x, h => by
    rw [k_s1] at h
    rw [List.cons_append, k_s1]
    exact wpS_mono s env h (Ks.Le.mk (fun e q => wpSs_app q) (fun _ _ q => q) fun _ _ q => q)
/-- behind k statements N holds -/
theorem seq_at {T : Txt} (k : Nat) {ss : List RS} {env : Env'} {n : Env' → Prop} {r : QE} {x : QX} (N : Env' → Prop) (h1 : wpSs T (ss.take k) env ⟨N, r, x⟩) (h2 : ∀ e, N e → wpSs T (ss.drop k) e ⟨n, r, x⟩) : wpSs T ss env ⟨n, r, x⟩ := by
  rw [← List.take_append_drop k ss]
  exact wpSs_app (wpSs_mono (ss.take k) env h1 (Ks.Le.mk h2 (fun _ _ q => q) fun _ _ q => q))
end DL
namespace DL
theorem dat_cons {z : Rz} {l : List Rz} : (z :: l).map Rz.dat = z.dat :: l.map Rz.dat := rfl
theorem dat_nil : ([] : List Rz).map Rz.dat = [] := rfl
end DL
end
section
set_option Elab.async false
set_option linter.all false
set_option maxRecDepth 100000
set_option maxHeartbeats 3900000
/-! DL35: what the head tells of defs and of exception classes. -/
namespace DL
open PySem PySem.Spec L2 PyProof.Rows
/-! ### an exception class with its own __init__ -/
/-- its name, its field, its __init__, as written -/
structure XI where
  x : Str
  f : Str
  st : Stmt
  q : Str
abbrev cAt (K : PySem.W.Frag) (x : Str) : Addr := He.ga K x
abbrev iAt (K : PySem.W.Frag) (x : Str) : Addr := He.ma K (He.ga K x) "__init__"
def clsB (K : PySem.W.Frag) (C : Addr) : Bool := match K.lookup C with
  | some ⟨.type ty, _, .cls cd, sl⟩ => (match cd.mro, sl.toList with
    | .ref C' :: bm, [_, _, _, _, some (.builtin n), _] => decide (ty = "type") && (decide (C' = C) && (decide (n = "ValueError.__new__") && (!cd.hasDel && (cd.hasDict && PySem.HandSPX.refsVE bm))))
    | _, _ => false)
  | _ => false
theorem clsB_ok {K : PySem.W.Frag} {C : Addr} (h : clsB K C = true) : ∃ nm q N bs bm sn sub ab col dd k0 k1 k2 k3 k5, K.lookup C = some (excClassObj nm q C N bs bm true sn sub ab col dd k0 k1 k2 k3 k5 "ValueError.__new__") ∧ PySem.HandSPX.refsVE bm = true := by
  unfold clsB at h
  split at h
  · rename_i ty dd cd sl e
    split at h
    · rename_i C' bm k0 k1 k2 k3 n k5 e1 e2
      simp only [Bool.and_eq_true, decide_eq_true_eq, Bool.not_eq_true'] at h
      obtain ⟨h1, h2, h3, h4, h5, h6⟩ := h
      obtain ⟨nm, bs, mro, N, q, hd, sn, sub, ab, col, del⟩ := cd
      obtain ⟨sl⟩ := sl
      subst h1 h2 h3
      simp only at e1 e2 h4 h5
      subst e1 e2 h4 h5
      exact ⟨nm, q, N, bs, bm, sn, sub, ab, col, dd, k0, k1, k2, k3, k5, e, h6⟩
    · cases h
  · cases h
/-- what is seen of a function, but for addresses -/
abbrev FnS : Type := Option (Str × Str × Arguments × FuncBody × Scope × Addr × List Str × Value × Addr)
def fnS (K : PySem.W.Frag) (a : Addr) : FnS := match K.lookup a with
  | some ⟨_, _, .func fd, _⟩ => some (fd.name, fd.qualname, fd.params, fd.body, fd.scope, fd.globals, fd.closure.map (·.1), fd.defaults, fd.builtins)
  | _ => none
def XI.val (X : XI) : FnS := some ("__init__", X.q, defArgs X.st, .stmts (defBody X.st), defScope X.st, mainGlobals, ["__class__"], .none, builtinsNs)
/-- .. of its addresses -/
def codB (prog : Program) (K : PySem.W.Frag) (C a : Addr) (q : Str) : Bool := match K.lookup a with
  | some ⟨_, _, .func fd, _⟩ => (match fd.code, fd.closure with
    | .ref cda, [(_, cc)] => PySem.W.codeIn K (.ref cda) q && ((match K.lookup cda with
        | some ⟨_, _, .fields vs, _⟩ => (match (vs[2]? : Option Value) with
          | some (.str fl _) => (prog.main.file : Str) == fl
          | _ => false)
        | _ => false) && (match K.lookup cc with
        | some ⟨_, _, .cell (some (.ref C')), _⟩ => decide (C' = C)
        | _ => false))
    | _, _ => false)
  | _ => false
def supB (K : PySem.W.Frag) (C : Addr) : Bool := match PySem.W.clsIn K C with
  | some cd => decide (PySem.W.alongIn K "__init__" ((cd.mro.dropWhile (· != .ref C)).drop 1) = some (some (.builtin "ValueError.__init__")))
  | none => false
def XI.ok (prog : Program) (K : PySem.W.Frag) (X : XI) : Bool :=
  clsB K (cAt K X.x) && (decide (PySem.W.findIn K (.ref (cAt K X.x)) X.f = some none) && (decide (PySem.W.findIn K (.ref (cAt K X.x)) "__setattr__" = some (some (.builtin "object.__setattr__"))) &&
  (decide (PySem.W.subIn K (.ref (cAt K X.x)) (.type "BaseException") = some true) && (decide (PySem.W.typeIn K (.ref (cAt K X.x)) = some (.type "type")) && (PySem.W.keepIn K (.ref (cAt K X.x)) &&
  (codB prog K (cAt K X.x) (iAt K X.x) X.q && (supB K (cAt K X.x) && (decide (PySem.W.mroIn K (cAt K X.x) (.ref (cAt K X.x)) = some true) && (decide (PySem.W.mroIn K (cAt K X.x) (.type "ValueError") = some true) &&
  (decide (PySem.W.nsIn K cStatics "thirdparty.any" = some none) && (decide (PySem.W.findIn K (.ref (cAt K X.x)) "__init__" = some (some (.ref (iAt K X.x)))) && (decide (PySem.W.typeIn K (.ref (iAt K X.x)) = some (.type "function")) && xfB K (cAt K X.x)))))))))))))
theorem XI.ini {prog : Program} {K : PySem.W.Frag} {X : XI} (e : fnS K (iAt K X.x) = X.val) (h : X.ok prog K = true) (ht : (prog.main.scope.names.lookup ("super" : Str)).isSome = false) :
    ∃ cc cda fd, IniC prog K (cAt K X.x) (iAt K X.x) cc cda X.q X.st X.f fd ∧ PySem.W.findIn K (.ref (cAt K X.x)) "__init__" = some (some (.ref (iAt K X.x))) ∧ PySem.W.typeIn K (.ref (iAt K X.x)) = some (.type "function") ∧ XfC K (cAt K X.x) ∧
      (∃ kV doc pm an ct, fd = PySem.W.ksFn "__init__" X.q (defArgs X.st) (defBody X.st) (defScope X.st) .none kV doc pm an (.ref cda) ct cc) := by
  simp only [XI.ok, Bool.and_eq_true, decide_eq_true_eq] at h
  obtain ⟨h1, h2, h3, h4, h5, h6, h7, h8, h9, h10, h11, h12, h13, h14⟩ := h
  unfold codB at h7
  unfold fnS at e
  split at h7
  · rename_i oc od fd osl lk
    rw [lk] at e
    obtain ⟨n1, n2, n3, n4, n5, n6, n7, n8, n9, n10, n11, n12, n13, n14, n15⟩ := fd  -- so
    simp only at h7
    split at h7
    · rename_i _ _ cda nm cc
      simp only [Bool.and_eq_true] at h7
      obtain ⟨k1, k2, k3⟩ := h7
      have e' := Option.some.inj e
      simp only [XI, Prod.mk.injEq] at e'
      obtain ⟨q1, q2, q3, q4, q5, q6, q7, q8, q9⟩ := e'
      subst q1 q2 q3 q4 q5 q6 q8 q9
      simp only [List.map_cons, List.map_nil, List.cons.injEq, and_true] at q7
      subst q7
      refine ⟨cc, cda, _, ⟨⟨clsB_ok h1, h3, h4, h5, h6⟩, h2, ⟨oc, od, n9, n10, n11, n12, n14, osl, rfl, lk⟩, k1, ?_, ?_, ?_, h9, h10, h11, ht⟩, h12, h13, xfB_ok h14, ⟨n9, n10, n11, n12, n14, rfl⟩⟩
      · split at k2
        · rename_i ccl cdd vs ccs lk2
          split at k2
          · rename_i fl tf e3
            exact ⟨ccl, cdd, vs, ccs, fl, tf, lk2, e3, k2⟩
          · cases k2
        · cases k2
      · split at k3
        · rename_i cl cld C' csl lk3
          have := of_decide_eq_true k3
          subst this
          exact ⟨cl, cld, csl, lk3⟩
        · cases k3
      · unfold supB at h8
        split at h8
        · rename_i cd e4
          exact ⟨cd, e4, of_decide_eq_true h8⟩
        · cases h8
    · cases h7
  · cases h7
/-! ### the Hook -/
abbrev AlL : Type := He.AlD × Bool × List FnS
def frL (g : Addr → Option Obj) (n : Nat) : PySem.W.Frag := He.frG g (cStatics :: He.asD g n)
def obsL' (prog : Program) (fa : List He.Fa) (fn : List He.DefD) (xs : List XI) (K : PySem.W.Frag) : AlL := (He.obsD fa fn K, xs.all (fun X => X.ok prog K), xs.map fun X => fnS K (iAt K X.x))
def valL (fn : List He.DefD) (xs : List XI) : AlL := (He.valD fn, true, xs.map XI.val)
def SaysL (prog : Program) (fa : List He.Fa) (fn : List He.DefD) (xs : List XI) (K : PySem.W.Frag) : Prop := obsL' prog fa fn xs K = valL fn xs
def obsL (prog : Program) (n : Nat) (fa : List He.Fa) (fn : List He.DefD) (xs : List XI) (g : Addr → Option Obj) : AlL := obsL' prog fa fn xs (frL g n)
def hookL (prog : Program) (n : Nat) (fa : List He.Fa) (fn : List He.DefD) (xs : List XI) : PySem.W.Hook where
  α := AlL
  obs := fun s => obsL prog n fa fn xs s.heap.get?
  val := fun _ => valL fn xs
  says := fun _ h => ∃ K : PySem.W.Frag, K.In h ∧ SaysL prog fa fn xs K
  of := fun _ _ e => ⟨_, He.frG_in, e⟩
  keeps := fun _ _ _ ⟨K, hK, c⟩ k => ⟨K, hK.keeps k, c⟩
theorem obsL_eq {prog : Program} {n : Nat} {fa : List He.Fa} {fn : List He.DefD} {xs : List XI} {g : Addr → Option Obj} {s : Shared} (h : ∀ a, g a = s.heap.get? a) : obsL prog n fa fn xs g = (hookL prog n fa fn xs).obs s := by
  obtain rfl : g = s.heap.get? := funext h
  rfl
section
variable {prog : Program} {fa : List He.Fa} {fn : List He.DefD} {xs : List XI} {K : PySem.W.Frag}
theorem SaysL.d (c : SaysL prog fa fn xs K) : He.SaysD fa fn K := congrArg (fun z : AlL => z.1) c
theorem SaysL.ini (c : SaysL prog fa fn xs K) {X : XI} (hX : X ∈ xs) : X.ok prog K = true ∧ fnS K (iAt K X.x) = X.val := by
  have c1 : xs.all (fun X => X.ok prog K) = true := congrArg (fun z : AlL => z.2.1) c
  have c2 : xs.map (fun X => fnS K (iAt K X.x)) = xs.map XI.val := congrArg (fun z : AlL => z.2.2) c
  exact ⟨List.all_eq_true.mp c1 X hX, List.map_inj_left.mp c2 X hX⟩
end
/-! ### defs -/
def dOf (x : Str) (st : Stmt) : He.DefD := ⟨(x, none), x, x, defArgs st, defBody st, defScope st, [], []⟩
theorem fun_of {K : PySem.W.Frag} {x : Str} {st : Stmt} {f : Addr} {fd : FuncData} (F : FunD K x x (defArgs st) (defBody st) (defScope st) [] [] f fd) : Fun K x x st f fd := by
  obtain ⟨oc, od, dV, kV, doc, pm, an, cdv, ct, osl, e, lk, hcd, hd, _⟩ := F.ex
  rcases hd with ⟨_, rfl⟩ | ⟨h, _⟩
  · exact ⟨⟨oc, od, kV, doc, pm, an, cdv, ct, osl, e, lk, hcd⟩, F.kp⟩
  · exact (h rfl).elim
section
variable {P : Program} {w : World} {K : PySem.W.Frag} {mg : Str → Option Value} {base h : Heap} {c : Cn} {T : Txt} {fa : List He.Fa} {fn : List He.DefD}
/-- how positions bind -/
def BnP (st : Stmt) (x : Str) (ps : List Str) : Prop := ∀ (kV doc pm : Value) (an : Option Addr) (cdv ct : Value) (us : List Value), us.length = ps.length → bindArgs (PySem.W.fnOf x x (defArgs st) (defBody st) (defScope st) .none kV doc pm an cdv ct) ⟨us, []⟩ = pure (ps.zip us)
/-- how keywords bind -/
def BnK (st : Stmt) (x : Str) (ps ks : List Str) (inv : List Nat) : Prop := ∀ (kV doc pm : Value) (an : Option Addr) (cdv ct : Value) (ws : List Value), ws.length = ks.length → bindArgs (PySem.W.fnOf x x (defArgs st) (defBody st) (defScope st) .none kV doc pm an cdv ct) ⟨[], ks.zip ws⟩ = pure (ps.zip (inv.map (ws.getD · .none)))
/-- a def of the top: called by place -/
structure Dfn (P : Program) (w : World) (K : PySem.W.Frag) (mg : Str → Option Value) (base : Heap) (c : Cn) (T : Txt) (k i : Nat) (x : Str) (st : Stmt) (ps : List Str) : Prop where
  ex : ∃ fd, FnG P w K mg base k (He.ga K x) fd ps (spC c (T.ctr i) (T.len i).length) ∧ mg x = some (.ref (He.ga K x)) ∧ Fun K x x st (He.ga K x) fd
theorem dfn_mk {k i np : Nat} {x : Str} {st : Stmt} {ps N : List Str} {body : List RS} (s : He.SaysD fa fn K) (X : K.In h) (G : h.Ns mainGlobals mg) (hd : dOf x st ∈ fn) (hf : He.Fa.glo x ∈ fa) (S : FnScope N ps (defScope st)) (hps : ps.length = np) (hl : (T.len i).length = np) (le : (T.ctr i).Le (ctrOf T np (N.length - np) body))
    (ck : ∀ (f cdv : _) (A : Around) (outer : List Env) (s : Shared) (H : Hp) (vs : List V) (E : XK), A.guards = some [] → Room k (A.deeper (PyProof.Rows.envOfC x (defScope st) s.heap.objs.size f cdv)) →
      PSs (cxOf (L2.CX P w) P w K mg base N x (defScope st) f cdv A outer s H E) (defBody st) (rdSs c (am0 vs) T (WE0 E) body)) : Dfn P w K mg base c T (k + 1) i x st ps := by
  obtain ⟨fd, F⟩ := s.defs hd
  have F' : Fun K x x st (He.ga K x) fd := fun_of F
  refine ⟨fd, ?_, He.glo_ok X G (s.facts hf), F'⟩
  rw [hl]
  exact (fnG_of F' S hps (ck _)).imp fun vs H Q E q => spC_le le q
theorem dfn_draw {k i : Nat} {x : Str} {st : Stmt} {ps N : List Str} (s : He.SaysD fa fn K) (X : K.In h) (G : h.Ns mainGlobals mg) (hd : dOf x st ∈ fn) (hf : He.Fa.glo x ∈ fa) (S : FnScope N ps (defScope st)) (hps : ps.length = 2) (hN : N.length = 5) (hl : (T.len i).length = 2) (le : (T.ctr i).Le drawC)
    (ck : ∀ (f cdv : _) (A : Around) (outer : List Env) (s : Shared) (H : Hp) (E : XK), A.guards = some [] → Room k (A.deeper (PyProof.Rows.envOfC x (defScope st) s.heap.objs.size f cdv)) →
      PSs (cxOf (L2.CX P w) P w K mg base N x (defScope st) f cdv A outer s H E) (defBody st) (tDraw K)) : Dfn P w K mg base c T (k + 1) i x st ps := by
  obtain ⟨fd, F⟩ := s.defs hd
  have F' : Fun K x x st (He.ga K x) fd := fun_of F
  refine ⟨fd, ?_, He.glo_ok X G (s.facts hf), F'⟩
  rw [hl]
  exact (fnG_draw F' S hps hN (ck _)).imp fun vs H Q E q => spC_le le q
theorem Dfn.cal {j k i : Nat} {x : Str} {st : Stmt} {ps : List Str} (D : Dfn P w K mg base c T j i x st ps) (h : j ≤ k) (b : BnP st x ps) : CalM P w K mg base c T k i x := by
  obtain ⟨fd, F, hm, F'⟩ := D.ex
  exact ⟨_, fd, ps, F.mono h, hm, F'.kp, F'.binds b⟩
theorem Dfn.calK {j k i : Nat} {x : Str} {st : Stmt} {ps ks : List Str} {inv : List Nat} (D : Dfn P w K mg base c T j i x st ps) (h : j ≤ k) (b : BnK st x ps ks inv) : CalKM P w K mg base c T k i x ks inv := by
  obtain ⟨fd, F, hm, F'⟩ := D.ex
  refine ⟨_, fd, ps, F.mono h, hm, F'.kp, fun s ws _ hl => ?_⟩
  obtain ⟨oc, od, kV, doc, pm, an, cdv, ct, osl, rfl, lk, hcd⟩ := F'.ex
  exact .of_eq (b kV doc pm an cdv ct ws hl)
/-- the names of built-ins that the texts may use -/
def biN : List Str := ["abs", "all", "any", "bool", "dict", "enumerate", "int", "isinstance", "len", "list", "max", "min", "range", "repr", "sorted", "str", "sum", "tuple", "zip"]
theorem free_all (s : He.SaysD fa fn K) (X : K.In h) (G : h.Ns mainGlobals mg) (hf : ∀ x ∈ biN, He.Fa.free x ∈ fa) : ∀ x ∈ biN, mg x = none := fun x hx => He.free_ok X G (s.facts (hf x hx))
theorem gc_int {g : Nat} {x : Str} {i : Int} (s : He.SaysD fa fn K) (X : K.In h) (G : h.Ns mainGlobals mg) (hf : He.Fa.int x i ∈ fa) (hT : T.cst g = .int i) : GcM mg T g x := by
  obtain ⟨t, ht⟩ := He.int_ok X G (s.facts hf)
  refine ⟨.int i, _, ht, ⟨t, rfl⟩, fun K H Z => ?_⟩
  rw [hT]
  exact .int i .nil
end
end DL
end
section
set_option Elab.async false
set_option linter.all false
/-! DLx: what stands at an address is one function. -/
namespace DL
open PySem PySem.Spec L2 PyProof.Rows
theorem fun_one {K : PySem.W.Frag} {x y : Str} {st : Stmt} {f : Addr} {fd fd2 : FuncData} (F : Fun K x y st f fd) (G : Fun K x y st f fd2) : fd2 = fd := by
  obtain ⟨_, _, _, _, _, _, _, _, _, _, l1, _⟩ := F.ex
  obtain ⟨_, _, _, _, _, _, _, _, _, _, l2, _⟩ := G.ex
  have := l1.symm.trans l2
  injection this with this
  injection this with _ _ this _
  injection this with this
  exact this.symm
end DL
end
section
open PySem PySem.Spec L2 DL
set_option Elab.async false
set_option linter.all false
set_option maxRecDepth 100000
set_option maxHeartbeats 3900000
namespace K79
abbrev st_is_number : Stmt := PySem.Challenge.pw_townroads_k79_whole_flows.main.body.getD 5 (.Pass ⟨0, 0, 0, 0⟩)
abbrev st_is_within : Stmt := PySem.Challenge.pw_townroads_k79_whole_flows.main.body.getD 6 (.Pass ⟨0, 0, 0, 0⟩)
abbrev st_reached : Stmt := PySem.Challenge.pw_townroads_k79_whole_flows.main.body.getD 7 (.Pass ⟨0, 0, 0, 0⟩)
abbrev st_money : Stmt := PySem.Challenge.pw_townroads_k79_whole_flows.main.body.getD 9 (.Pass ⟨0, 0, 0, 0⟩)
abbrev st_is_row : Stmt := PySem.Challenge.pw_townroads_k79_whole_flows.main.body.getD 11 (.Pass ⟨0, 0, 0, 0⟩)
abbrev st_flow_error : Stmt := PySem.Challenge.pw_townroads_k79_whole_flows.main.body.getD 12 (.Pass ⟨0, 0, 0, 0⟩)
abbrev st_ends : Stmt := PySem.Challenge.pw_townroads_k79_whole_flows.main.body.getD 13 (.Pass ⟨0, 0, 0, 0⟩)
abbrev st_cut_flow : Stmt := PySem.Challenge.pw_townroads_k79_whole_flows.main.body.getD 14 (.Pass ⟨0, 0, 0, 0⟩)
abbrev st_tree_places : Stmt := PySem.Challenge.pw_townroads_k79_whole_flows.main.body.getD 15 (.Pass ⟨0, 0, 0, 0⟩)
abbrev st_flow_for : Stmt := PySem.Challenge.pw_townroads_k79_whole_flows.main.body.getD 16 (.Pass ⟨0, 0, 0, 0⟩)
abbrev st_flow_for_error : Stmt := PySem.Challenge.pw_townroads_k79_whole_flows.main.body.getD 17 (.Pass ⟨0, 0, 0, 0⟩)
abbrev st_law_deck : Stmt := PySem.Challenge.pw_townroads_k79_whole_flows.main.body.getD 19 (.Pass ⟨0, 0, 0, 0⟩)
abbrev st_law_draw : Stmt := PySem.Challenge.pw_townroads_k79_whole_flows.main.body.getD 20 (.Pass ⟨0, 0, 0, 0⟩)
abbrev st_law_pick : Stmt := PySem.Challenge.pw_townroads_k79_whole_flows.main.body.getD 21 (.Pass ⟨0, 0, 0, 0⟩)
abbrev st_law_any : Stmt := PySem.Challenge.pw_townroads_k79_whole_flows.main.body.getD 22 (.Pass ⟨0, 0, 0, 0⟩)
abbrev st_law_town : Stmt := PySem.Challenge.pw_townroads_k79_whole_flows.main.body.getD 23 (.Pass ⟨0, 0, 0, 0⟩)
abbrev st_law_ends : Stmt := PySem.Challenge.pw_townroads_k79_whole_flows.main.body.getD 24 (.Pass ⟨0, 0, 0, 0⟩)
abbrev st_law_cut : Stmt := PySem.Challenge.pw_townroads_k79_whole_flows.main.body.getD 25 (.Pass ⟨0, 0, 0, 0⟩)
abbrev st_law_flow : Stmt := PySem.Challenge.pw_townroads_k79_whole_flows.main.body.getD 26 (.Pass ⟨0, 0, 0, 0⟩)
abbrev st_law_flow_due : Stmt := PySem.Challenge.pw_townroads_k79_whole_flows.main.body.getD 27 (.Pass ⟨0, 0, 0, 0⟩)
abbrev st_law_for_due : Stmt := PySem.Challenge.pw_townroads_k79_whole_flows.main.body.getD 28 (.Pass ⟨0, 0, 0, 0⟩)
abbrev st_law_bent : Stmt := PySem.Challenge.pw_townroads_k79_whole_flows.main.body.getD 29 (.Pass ⟨0, 0, 0, 0⟩)
abbrev st_law_told : Stmt := PySem.Challenge.pw_townroads_k79_whole_flows.main.body.getD 30 (.Pass ⟨0, 0, 0, 0⟩)
abbrev st_law_is_town_right : Stmt := PySem.Challenge.pw_townroads_k79_whole_flows.main.body.getD 31 (.Pass ⟨0, 0, 0, 0⟩)
abbrev st_law : Stmt := PySem.Challenge.pw_townroads_k79_whole_flows.main.body.getD 32 (.Pass ⟨0, 0, 0, 0⟩)
abbrev Pg : Program := PySem.Challenge.pw_townroads_k79_whole_flows
def fa : List He.Fa := [.glo "is_number", .glo "is_within", .glo "reached", .glo "money", .glo "is_row", .glo "flow_error", .glo "ends", .glo "cut_flow", .glo "tree_places", .glo "flow_for", .glo "flow_for_error", .glo "_law_deck", .glo "_law_draw", .glo "_law_pick", .glo "_law_any", .glo "_law_town", .glo "_law_ends", .glo "_law_cut", .glo "_law_flow", .glo "_law_flow_due", .glo "_law_for_due", .glo "_law_bent", .glo "_law_told", .glo "_law_is_town_right", .glo "law", .glo "LoanError", .glo "Unfit", .exc "LoanError", .exc "Unfit", .free "abs", .free "all", .free "any", .free "bool", .free "dict", .free "enumerate", .free "int", .free "isinstance", .free "len", .free "list", .free "max", .free "min", .free "range", .free "repr", .free "sorted", .free "str", .free "sum", .free "tuple", .free "zip", .free "super", .int "MAX_MONEY" 1000, .exm "LoanError" "LoanError" true, .exm "LoanError" "Unfit" false, .exm "Unfit" "LoanError" true, .exm "Unfit" "Unfit" true]
def fn : List He.DefD := [dOf "is_number" st_is_number, dOf "is_within" st_is_within, dOf "reached" st_reached, dOf "money" st_money, dOf "is_row" st_is_row, dOf "flow_error" st_flow_error, dOf "ends" st_ends, dOf "cut_flow" st_cut_flow, dOf "tree_places" st_tree_places, dOf "flow_for" st_flow_for, dOf "flow_for_error" st_flow_for_error, dOf "_law_deck" st_law_deck, dOf "_law_draw" st_law_draw, dOf "_law_pick" st_law_pick, dOf "_law_any" st_law_any, dOf "_law_town" st_law_town, dOf "_law_ends" st_law_ends, dOf "_law_cut" st_law_cut, dOf "_law_flow" st_law_flow, dOf "_law_flow_due" st_law_flow_due, dOf "_law_for_due" st_law_for_due, dOf "_law_bent" st_law_bent, dOf "_law_told" st_law_told, dOf "_law_is_town_right" st_law_is_town_right, dOf "law" st_law]
def xs : List XI := []
abbrev Rw : PySem.W.OpenRow := PySem.W.OpenLaw.row PySem.Challenge.rw_townroads_k79_whole_flows
abbrev hk : PySem.W.Hook := hookL Pg 4 fa fn xs
def ob (s : PySem.W.SharedT) : AlL := obsL Pg 4 fa fn xs (HandSHeadRun.getT s)
theorem ob_eq (s : PySem.W.SharedT) : ob s = hk.obs s.abs := obsL_eq (HandSHeadRun.getT_eq s)
def loose : List Str := (["is_number", "is_within", "reached", "money", "is_row", "flow_error", "ends", "cut_flow", "tree_places", "flow_for", "flow_for_error", "_law_deck", "_law_draw", "_law_pick", "_law_any", "_law_town", "_law_ends", "_law_cut", "_law_flow", "_law_flow_due", "_law_for_due", "_law_bent", "_law_told", "_law_is_town_right", "LoanError", "Unfit", "MAX_MONEY"] : List Str)
theorem run (w : World) : HandSHeadRun.RunEq Rw (PySem.W.view Rw.prog [32]) hk ob 2500 loose w := by
  intro os
  kernel_rfl
end K79
end
section
set_option Elab.async false
set_option linter.all false
set_option maxRecDepth 100000
set_option maxHeartbeats 3900000
/-! DL36: more operations, told as calls by numbers of their own. -/
namespace DL
open PySem PySem.Spec L2 PyProof.Rows

/-- the promise of an operation over data that is only read -/
def opC (P : List D → (Sl → Prop) → Prop) (hm : ∀ ds (Q Q' : Sl → Prop), P ds Q → (∀ s, Q s → Q' s) → P ds Q') : Ctr where
  run := fun ss Q _ => ∃ ds : List D, ss = ds.map Sl.v ∧ P ds fun s => Q s (ds.map fun _ => Sl.no)
  mono := fun {ss Q Q' E E'} ⟨ds, h1, h2⟩ hq _ => ⟨ds, h1, hm _ _ _ h2 fun s q => hq _ _ q⟩
/-- what such an operation may give -/
def Gv (c : Cn) (H : Hp) (Z : Zn) (Q : VK) (s : Sl) : Prop := ∀ v H' G, (∀ a o, H a = some o → H' a = some o) → TOk c H' Z [] v G s → (∀ a ∈ G, H a = none) → Q v H'
def opR (c : Cn) (P : List D → (Sl → Prop) → Prop) : List V → Hp → VK → Prop := fun vs H Q => ∃ Z ds, Rs c.K H Z 0 vs ds [] ∧ P ds (Gv c H Z Q)
section
variable {c : Cn} {H H' : Hp} {Z : Zn} {Q : VK}
theorem rs_of : ∀ {vs : List V} {ds : List D}, vs.length = ds.length → (∀ (i : Nat) d, ds[i]? = some d → ∃ x, vs[i]? = some x ∧ Rep c.K H Z 0 x d []) → Rs c.K H Z 0 vs ds []
  | [], [], _, _ => .nil
  | v :: vs, d :: ds, hl, h => by
    obtain ⟨x, e, r⟩ := h 0 d rfl
    cases e
    have := rs_of (vs := vs) (ds := ds) (by simpa using hl) fun i d hd => h (i + 1) d hd
    exact Rs.cons r this Dj.nil_l
  | [], _ :: _, hl, _ => by cases hl
  | _ :: _, [], hl, _ => by cases hl
theorem op_read {P : List D → (Sl → Prop) → Prop} {hm : ∀ ds (Q Q' : Sl → Prop), P ds Q → (∀ s, Q s → Q' s) → P ds Q'} {n : Nat} {vs : List V} {E : XK} (h : spC c (opC P hm) n vs H Q E) : opR c P vs H Q := by
  obtain ⟨hl, Z, ss, F, S, ds, rfl, q⟩ := h
  have hF : ∀ i, F i = [] := fun i => by
    by_cases hi : i < (ds.map Sl.v).length
    · have e : (ds.map Sl.v)[i]? = some (Sl.v (ds[i]'(by simpa using hi))) := by simp [List.getElem?_map, List.getElem?_eq_getElem (show i < ds.length by simpa using hi)]
      exact (S.sl i _ e).1
    · exact S.out i (by omega)
  have len := S.len
  rw [List.length_map, List.length_map] at len
  refine ⟨Z, ds, rs_of len.symm fun i d hd => ?_, hm _ _ _ q fun s q v H' G gr t fr => ?_⟩
  · obtain ⟨_, x, hx, r⟩ := S.sl i (.v d) (by rw [List.getElem?_map, hd]; rfl)
    rw [List.getElem?_map] at hx
    cases e : vs[i]? with
    | none => rw [e] at hx; cases hx
    | some y => rw [e] at hx; cases hx; exact ⟨_, rfl, r⟩
  · refine q v H' Z (fun _ => []) G ⟨fun a o e _ => gr a o e, fun a ha => ?_, fun _ _ h => (by cases h), fun _ h => h, fun _ h => .inl h⟩ ⟨by simp [len], fun i s e => ?_, fun _ _ => rfl, fun _ _ _ _ h => (by cases h), fun _ _ h => (by cases h), fun a ha => ?_⟩ t ⟨fun a ha hz => ?_, fun _ _ _ h => (by cases h)⟩ fun a ha => .inr (fr a ha)
    · cases e : H a with
      | none => exact absurd e ha
      | some o => rw [gr a o e]; simp
    · rw [List.getElem?_map] at e
      cases e2 : ds[i]? with
      | none => rw [e2] at e; cases e
      | some d => rw [e2] at e; cases e; rfl
    · cases e : H a with
      | none => exact absurd e (S.zh a ha)
      | some o => rw [gr a o e]; simp
    · exact S.zh a hz (fr a ha)
theorem Gv.same {x : V} {d : D} (g : Gv c H Z Q (.v d)) (r : Rep c.K H Z 0 x d []) : Q x H := g x H [] (fun _ _ e => e) ⟨rfl, r⟩ fun _ h => by cases h
theorem Gv.int {i : Int} (g : Gv c H Z Q (.v (.int i))) : Q (.int i) H := g.same (.int i .nil)
theorem Gv.bl {i : Bool} (g : Gv c H Z Q (.v (.bl i))) : Q (.bl i) H := g.same (.bl i .nil)
theorem Gv.tup {a : Addr} {vs : List V} {ds : List D} (g : Gv c H Z Q (.v (.tup ds))) (r : Rs c.K H Z 0 vs ds []) (n : H a = none) : Q (.ref a) (upd H a (.tup vs)) :=
  g _ _ [] (grow_upd n) ⟨rfl, Rep.mk_tup upd_same (r.grow (grow_upd n))⟩ fun _ h => by cases h
theorem Gv.lst {a : Addr} {vs : List V} {ds : List D} (g : Gv c H Z Q (.o 0 (.lst ds))) (r : Rs c.K H Z 0 vs ds []) (n : H a = none) : Q (.ref a) (upd H a (.lst vs)) :=
  g _ _ [a] (grow_upd n) (Rep.mk_lst1 upd_same (r.grow (grow_upd n)) (by simp)) fun b h => by rw [List.mem_singleton.mp h]; exact n
theorem Gv.dK {a : Addr} {ps : List (Key × V)} {kvs : List (Key × D)} (g : Gv c H Z Q (.o 0 (.dK kvs))) (ek : ps.map (·.1) = kvs.map (·.1)) (r : Rs c.K H Z 0 (ps.map (·.2)) (kvs.map (·.2)) []) (n : H a = none) : Q (.ref a) (upd H a (.dK ps)) :=
  g _ _ [a] (grow_upd n) (Rep.mk_dK1 upd_same ek (r.grow (grow_upd n)) (by simp)) fun b h => by rw [List.mem_singleton.mp h]; exact n
end

/-! ### the operations -/
/-- the ints of a list or a tuple -/
def isInts (d : D) (ns : List Int) : Prop := d = .lst (ns.map D.int) ∨ d = .tup (ns.map D.int)
def P_sum : List D → (Sl → Prop) → Prop
  | [d], Q => ∃ ns, isInts d ns ∧ Q (.v (.int ns.sum))
  | _, _ => False
def P_min : List D → (Sl → Prop) → Prop
  | [d], Q => ∃ ns, isInts d ns ∧ ns ≠ [] ∧ ∀ m, m ∈ ns → (∀ y ∈ ns, m ≤ y) → Q (.v (.int m))
  | _, _ => False
def P_max : List D → (Sl → Prop) → Prop
  | [d], Q => ∃ ns, isInts d ns ∧ ns ≠ [] ∧ ∀ m, m ∈ ns → (∀ y ∈ ns, y ≤ m) → Q (.v (.int m))
  | _, _ => False
/-- a tuple so many times -/
def P_mulT : List D → (Sl → Prop) → Prop
  | [.tup xs, .int k], Q => xs ≠ [] ∧ k ≤ 1000 ∧ -1000 ≤ k ∧ xs.length ≤ 1000 ∧ Q (.v (.tup (List.replicate k.toNat xs).flatten))
  | _, _ => False
/-- {k: v} -/
def P_dK1 : List D → (Sl → Prop) → Prop
  | [k, v], Q => ∃ q, keyOf k = some q ∧ Q (.o 0 (.dK [(q, v)]))
  | _, _ => False
/-- list(range(n)) -/
def P_lrng : List D → (Sl → Prop) → Prop
  | [.int j], Q => -(2 ^ 62) ≤ j ∧ j ≤ 2 ^ 24 ∧ Q (.o 0 (.lst (rngD 0 j)))
  | _, _ => False
def P_dead : List D → (Sl → Prop) → Prop
  | _, _ => False
theorem m_sum : ∀ ds (Q Q' : Sl → Prop), P_sum ds Q → (∀ s, Q s → Q' s) → P_sum ds Q' := by
  intro ds Q Q' h k
  unfold P_sum at h ⊢; split at h
  · obtain ⟨ns, e, q⟩ := h; exact ⟨ns, e, k _ q⟩
  · exact h.elim
theorem m_min : ∀ ds (Q Q' : Sl → Prop), P_min ds Q → (∀ s, Q s → Q' s) → P_min ds Q' := by
  intro ds Q Q' h k
  unfold P_min at h ⊢; split at h
  · obtain ⟨ns, e, e2, q⟩ := h; exact ⟨ns, e, e2, fun m a b => k _ (q m a b)⟩
  · exact h.elim
theorem m_max : ∀ ds (Q Q' : Sl → Prop), P_max ds Q → (∀ s, Q s → Q' s) → P_max ds Q' := by
  intro ds Q Q' h k
  unfold P_max at h ⊢; split at h
  · obtain ⟨ns, e, e2, q⟩ := h; exact ⟨ns, e, e2, fun m a b => k _ (q m a b)⟩
  · exact h.elim
theorem m_mulT : ∀ ds (Q Q' : Sl → Prop), P_mulT ds Q → (∀ s, Q s → Q' s) → P_mulT ds Q' := by
  intro ds Q Q' h k
  unfold P_mulT at h ⊢; split at h
  · exact ⟨h.1, h.2.1, h.2.2.1, h.2.2.2.1, k _ h.2.2.2.2⟩
  · exact h.elim
theorem m_dK1 : ∀ ds (Q Q' : Sl → Prop), P_dK1 ds Q → (∀ s, Q s → Q' s) → P_dK1 ds Q' := by
  intro ds Q Q' h k
  unfold P_dK1 at h ⊢; split at h
  · obtain ⟨ns, e, q⟩ := h; exact ⟨ns, e, k _ q⟩
  · exact h.elim
theorem m_lrng : ∀ ds (Q Q' : Sl → Prop), P_lrng ds Q → (∀ s, Q s → Q' s) → P_lrng ds Q' := by
  intro ds Q Q' h k
  unfold P_lrng at h ⊢; split at h
  · exact ⟨h.1, h.2.1, k _ h.2.2⟩
  · exact h.elim
theorem m_dead : ∀ ds (Q Q' : Sl → Prop), P_dead ds Q → (∀ s, Q s → Q' s) → P_dead ds Q' := fun _ _ _ h _ => h

/-! ### sum, min, max of a tuple of ints -/
section
variable {prog : Program} {w : World} {A : Around} {E : Value → Shared → Prop} {s : Shared} {l : Addr} {its : List Value} {ns : List Int} {xs : Array (Int × Tok)} {Q : Value → Shared → Prop}
theorem tup_kept {h' : Heap} (hk : ∀ b o, b ∉ [s.heap.objs.size] → (s.heap.push { cls := .type "tuple_iterator", data := .fields #[.ref l, .int 0 0] }).get? b = some o → h'.get? b = some o) : ∀ b o, s.heap.get? b = some o → h'.get? b = some o := by
  intro b o e
  have hb : b ≠ s.heap.objs.size := Nat.ne_of_lt (Heap.lt_size e)
  exact hk b o (by simpa using hb) (Heap.get?_push_of_some _ e)
theorem tup_fp (hl : s.heap.IsTuple l (intItems xs)) : l ≠ s.heap.objs.size ∧ ∀ b ∈ [s.heap.objs.size, l], b < (s.heap.push { cls := .type "tuple_iterator", data := .fields #[.ref l, .int 0 0] }).objs.size := by
  obtain ⟨o, ho, _⟩ := hl
  have h1 := Heap.lt_size ho
  refine ⟨Nat.ne_of_lt h1, fun b hb => ?_⟩
  rw [Heap.size_push]
  simp only [List.mem_cons, List.not_mem_nil, or_false] at hb  -- so
  rcases hb with rfl | rfl
  · exact Nat.lt_succ_self _
  · exact Nat.lt_succ_of_lt h1
theorem sum_tupA (hh : A.handled = none) (hl : s.heap.IsTuple l (intItems xs)) (h : ∀ h' tk t', (∀ b o, s.heap.get? b = some o → h'.get? b = some o) → Q (.int (preSum (numAt xs) xs.size) t') { s with heap := h', toks := tk }) :
    wpAny (model prog w) A (call (.builtin "sum") [.ref l]) Q E s := by  -- so
  obtain ⟨ne, fp⟩ := tup_fp hl
  refine call_sum_walkG (wpAny_pyIter_tuple hl ?_)
  refine ⟨_, _, _, _, _, _, numAt xs, rfl, Walks.tuple (A := A.in1) hh s.heap.objs.size l ne (intItems xs), ⟨⟨_, Heap.get?_push_size _ rfl, rfl, rfl⟩, hl.push _⟩, fp, fun _ _ => intItems_at, fun h' tk t' hk => ?_⟩
  have := h h' tk t' (tup_kept hk)
  simpa [intItems] using this
theorem max_tupA (hh : A.handled = none) (hl : s.heap.IsTuple l (intItems xs)) (h0 : 0 < xs.size)
    (h : ∀ v h' tk, (intItems xs)[argBest (fun i j => decide (numAt xs i > numAt xs j)) (xs.size - 1)]? = some v → (∀ b o, s.heap.get? b = some o → h'.get? b = some o) → Q v { s with heap := h', toks := tk }) : wpAny (model prog w) A (call (.builtin "max") [.ref l]) Q E s := by
  obtain ⟨ne, fp⟩ := tup_fp hl
  refine call_max_walk (wpAny_pyIter_tuple hl ?_)
  refine ⟨_, _, _, _, _, _, _, rfl, Walks.tuple (A := A.in1) hh s.heap.objs.size l ne (intItems xs), ⟨⟨_, Heap.get?_push_size _ rfl, rfl, rfl⟩, hl.push _⟩, fp, by simpa [intItems] using h0, CmpOf.ints_gt (numAt xs) (fun _ _ => intItems_at), fun v h' tk hP hk => ?_⟩
  exact h v h' tk (by simpa [intItems] using hP) (tup_kept hk)
theorem min_tupA (hh : A.handled = none) (hl : s.heap.IsTuple l (intItems xs)) (h0 : 0 < xs.size)
    (h : ∀ v h' tk, (intItems xs)[argBest (fun i j => decide (numAt xs i < numAt xs j)) (xs.size - 1)]? = some v → (∀ b o, s.heap.get? b = some o → h'.get? b = some o) → Q v { s with heap := h', toks := tk }) : wpAny (model prog w) A (call (.builtin "min") [.ref l]) Q E s := by
  obtain ⟨ne, fp⟩ := tup_fp hl
  refine call_min_walk (wpAny_pyIter_tuple hl ?_)
  refine ⟨_, _, _, _, _, _, _, rfl, Walks.tuple (A := A.in1) hh s.heap.objs.size l ne (intItems xs), ⟨⟨_, Heap.get?_push_size _ rfl, rfl, rfl⟩, hl.push _⟩, fp, by simpa [intItems] using h0, CmpOf.ints_lt (numAt xs) (fun _ _ => intItems_at), fun v h' tk hP hk => ?_⟩
  exact h v h' tk (by simpa [intItems] using hP) (tup_kept hk)
theorem sum_tup (hh : A.handled = none) (hl : s.heap.IsTuple l its.toArray) (hi : IntsAre its ns) (h : ∀ h' tk t', (∀ b o, s.heap.get? b = some o → h'.get? b = some o) → Q (.int ns.sum t') { s with heap := h', toks := tk }) : wpAny (model prog w) A (call (.builtin "sum") [.ref l]) Q E s := by
  obtain ⟨xs, e⟩ := hi.allInts.items  -- so
  have hn : numsOf (intItems xs).toList = ns := by rw [← e]; exact hi.numsOf  -- so
  rw [nums_intItems] at hn
  rw [e] at hl
  refine sum_tupA hh hl fun h' tk t' hk => ?_
  have r := h h' tk t' hk
  rw [preSum_eq, hn, List.take_of_length_le (by rw [← hn]; simp)]
  exact r
theorem max_tup (hh : A.handled = none) (hl : s.heap.IsTuple l its.toArray) (hi : IntsAre its ns) (h0 : 0 < ns.length) (h : ∀ h' tk M t', (∀ b o, s.heap.get? b = some o → h'.get? b = some o) → M ∈ ns → (∀ a, a ∈ ns → a ≤ M) → Q (.int M t') { s with heap := h', toks := tk }) :
    wpAny (model prog w) A (call (.builtin "max") [.ref l]) Q E s := by  -- so
  obtain ⟨xs, e⟩ := hi.allInts.items  -- so
  have hn : numsOf (intItems xs).toList = ns := by rw [← e]; exact hi.numsOf  -- so
  rw [nums_intItems] at hn
  subst hn
  rw [e] at hl
  have h1 : 0 < xs.size := by simpa using h0
  refine max_tupA hh hl h1 fun v h' tk hv hk => ?_
  obtain ⟨t, rfl⟩ := intItems_at hv  -- so
  obtain ⟨b1, b2⟩ := argBest_gt (numAt xs) (xs.size - 1)
  refine h h' tk _ t hk ?_ fun a ha => ?_  -- so
  · rw [numAt_eq]
    exact PySem.getD_mem (by rw [List.length_map, Array.length_toList]; omega)
  · obtain ⟨j, hj, e2⟩ := mem_getD ha
    rw [List.length_map, Array.length_toList] at hj  -- so
    rw [← e2, ← numAt_eq]
    exact b2 j (by omega)
theorem min_tup (hh : A.handled = none) (hl : s.heap.IsTuple l its.toArray) (hi : IntsAre its ns) (h0 : 0 < ns.length) (h : ∀ h' tk M t', (∀ b o, s.heap.get? b = some o → h'.get? b = some o) → M ∈ ns → (∀ a, a ∈ ns → M ≤ a) → Q (.int M t') { s with heap := h', toks := tk }) :
    wpAny (model prog w) A (call (.builtin "min") [.ref l]) Q E s := by  -- so
  obtain ⟨xs, e⟩ := hi.allInts.items  -- so
  have hn : numsOf (intItems xs).toList = ns := by rw [← e]; exact hi.numsOf  -- so
  rw [nums_intItems] at hn
  subst hn
  rw [e] at hl
  have h1 : 0 < xs.size := by simpa using h0
  refine min_tupA hh hl h1 fun v h' tk hv hk => ?_
  obtain ⟨t, rfl⟩ := intItems_at hv  -- so
  obtain ⟨b1, b2⟩ := argBest_lt (numAt xs) (xs.size - 1)
  refine h h' tk _ t hk ?_ fun a ha => ?_  -- so
  · rw [numAt_eq]
    exact PySem.getD_mem (by rw [List.length_map, Array.length_toList]; omega)
  · obtain ⟨j, hj, e2⟩ := mem_getD ha
    rw [List.length_map, Array.length_toList] at hj  -- so
    rw [← e2, ← numAt_eq]
    exact b2 j (by omega)
end
section
variable {X : Cx} {c : Cn}
theorem isInts_rep {H : Hp} {Z : Zn} {x : V} {d : D} {ns : List Int} (r : Rep c.K H Z 0 x d []) (h : isInts d ns) : ∃ a, x = .ref a ∧ (H a = some (.lst (ns.map V.int)) ∨ H a = some (.tup (ns.map V.int))) := by
  rcases h with rfl | rfl
  · obtain ⟨a, vs, rfl, h1, _, h2⟩ := r.lst0_inv
    have := h2.ints; subst this
    exact ⟨a, rfl, .inl h1⟩
  · obtain ⟨a, vs, rfl, h1, h2⟩ := r.tup_inv
    have := h2.ints; subst this
    exact ⟨a, rfl, .inr h1⟩
theorem rs1 {H : Hp} {Z : Zn} {xs : List V} {d : D} (h : Rs c.K H Z 0 xs [d] []) : ∃ x, xs = [x] ∧ Rep c.K H Z 0 x d [] := by
  have hl := h.length
  match xs, hl with
  | [x], _ => exact ⟨x, rfl, h⟩
theorem rs2 {H : Hp} {Z : Zn} {xs : List V} {d e : D} (h : Rs c.K H Z 0 xs [d, e] []) : ∃ x y, xs = [x, y] ∧ Rep c.K H Z 0 x d [] ∧ Rep c.K H Z 0 y e [] := by
  have hl := h.length
  match xs, hl with
  | [x, y], _ =>
    obtain ⟨F1, F2, e1, h1, h2, _⟩ := h.cons_inv
    obtain ⟨rfl, rfl⟩ := List.append_eq_nil_iff.mp e1.symm
    exact ⟨x, y, rfl, h1, h2⟩
theorem x_sum (hc : X.calm = true) : CallR X (.builtin "sum") (opR c P_sum) := by
  intro pn0 s σ H xs us Q I r h
  obtain ⟨Z, ds, hs, h⟩ := h
  unfold P_sum at h; split at h
  · rename_i d
    obtain ⟨x, rfl, rx⟩ := rs1 hs
    obtain ⟨ns, hi, q⟩ := h
    obtain ⟨a, rfl, h1 | h1⟩ := isInts_rep rx hi
    · exact cr_sum hc pn0 s σ H _ us Q I r ⟨a, ns, rfl, .inl (.inl h1), q.int⟩
    · obtain ⟨its, rv, pt, _⟩ := I.tuple (SqT.of h1)
      rw [Vals.ref1 r]
      exact sum_tup (I.ok.hd hc) pt rv.ints fun h' tk t' hk => ⟨.int _, H, I.kept hk, ⟨_, rfl⟩, q.int⟩
  · exact h.elim
theorem x_min (hc : X.calm = true) : CallR X (.builtin "min") (opR c P_min) := by
  intro pn0 s σ H xs us Q I r h
  obtain ⟨Z, ds, hs, h⟩ := h
  unfold P_min at h; split at h
  · rename_i d
    obtain ⟨x, rfl, rx⟩ := rs1 hs
    obtain ⟨ns, hi, h0, q⟩ := h
    have h0 := List.length_pos_iff.mpr h0
    obtain ⟨a, rfl, h1 | h1⟩ := isInts_rep rx hi
    · exact cr_min hc pn0 s σ H _ us Q I r ⟨a, ns, rfl, .inl (.inl h1), h0, fun m a b => (q m a b).int⟩
    · obtain ⟨its, rv, pt, _⟩ := I.tuple (SqT.of h1)
      rw [Vals.ref1 r]
      exact min_tup (I.ok.hd hc) pt rv.ints h0 fun h' tk m t' hk a b => ⟨.int _, H, I.kept hk, ⟨_, rfl⟩, (q m a b).int⟩
  · exact h.elim
theorem x_max (hc : X.calm = true) : CallR X (.builtin "max") (opR c P_max) := by
  intro pn0 s σ H xs us Q I r h
  obtain ⟨Z, ds, hs, h⟩ := h
  unfold P_max at h; split at h
  · rename_i d
    obtain ⟨x, rfl, rx⟩ := rs1 hs
    obtain ⟨ns, hi, h0, q⟩ := h
    have h0 := List.length_pos_iff.mpr h0
    obtain ⟨a, rfl, h1 | h1⟩ := isInts_rep rx hi
    · exact cr_max hc pn0 s σ H _ us Q I r ⟨a, ns, rfl, .inl (.inl h1), h0, fun m a b => (q m a b).int⟩
    · obtain ⟨its, rv, pt, _⟩ := I.tuple (SqT.of h1)
      rw [Vals.ref1 r]
      exact max_tup (I.ok.hd hc) pt rv.ints h0 fun h' tk m t' hk a b => ⟨.int _, H, I.kept hk, ⟨_, rfl⟩, (q m a b).int⟩
  · exact h.elim
end
/-! ### a tuple, so many times -/
theorem tmul_1 (l : Addr) (items : Array Value) (n : Nat) (dd : Option Addr) (sl : Array (Option Value)) (u : Tok) :
    Meets (Builtin.«tuple.__mul__» ⟨[.ref l, .int 1 u], []⟩) fun _ R s => s.heap.get? l = some { cls := .type "tuple", dict := dd, data := .seq items n, slots := sl } ∧ R (.ok (.ret (Value.ref l))) s :=
  .of_wp fun prog w A R s h => by  -- so
    obtain ⟨hp, g, d, tk, os⟩ := s  -- so
    obtain ⟨hl, h⟩ := h
    have f1 := AutoSeq1.idx_int
    wp_walk using wpAny_loadPart' hl  -- so
    exact ⟨_, rfl, h⟩
theorem tmul_0 (l : Addr) (items : Array Value) (n : Nat) (dd : Option Addr) (sl : Array (Option Value)) (x : Int) (u : Tok) (c0 : (decide (x < -(2 ^ 63)) || decide (x ≥ 2 ^ 63)) = false) (c1 : (items.isEmpty || x == 1) = false) (c2 : (decide (x ≤ 0) || items.isEmpty) = true) :
    Meets (Builtin.«tuple.__mul__» ⟨[.ref l, .int x u], []⟩) fun _ R s => s.heap.get? l = some { cls := .type "tuple", dict := dd, data := .seq items n, slots := sl } ∧ R (.ok (.ret (Value.ref s.heap.objs.size))) { s with heap := s.heap.push { cls := Value.type "tuple", data := Data.seq #[] }, toks := s.toks } :=
  .of_wp fun prog w A R s h => by  -- so
    obtain ⟨hp, g, d, tk, os⟩ := s  -- so
    obtain ⟨hl, h⟩ := h
    have f1 := AutoSeq1.idx_int
    wp_walk using wpAny_loadPart' hl  -- so
    repeat (first
      | (refine wpAny_ite_false (decide_eq_false (by rw [c0]; decide)) ?_; wp_walk using wpAny_loadPart' hl)
      | (refine wpAny_ite_false (decide_eq_false (by rw [c1]; decide)) ?_; wp_walk using wpAny_loadPart' hl)
      | (refine wpAny_ite_true (decide_eq_true c2) ?_; wp_walk using wpAny_loadPart' hl))
    exact ⟨_, rfl, h⟩
section
variable {X : Cx} {c : Cn} {m : Am} {T : Txt} {W : WX} {N : List Str} {sc scope : Scope} {fx : Str → Bool} {tb : Tb} {e a b d : Expr} {es : List Expr} {r ra rb : RE} {rs : List RE} {pos p p2 : Pos} {x : Str} {st : Stmt}
theorem x_mulT : OpR X (binaryOp .Mult) fun x y H Q => opR c P_mulT [x, y] H Q := by
  intro pn0 s σ H x y v u Q I rx ry h
  obtain ⟨Z, ds, hs, h⟩ := h
  unfold P_mulT at h; split at h
  · rename_i xs k
    obtain ⟨x', y', e, hx, hy⟩ := rs2 hs
    cases e
    obtain ⟨l, vs, rfl, h1, r1⟩ := hx.tup_inv
    have ey := (Rep.int_inv hy).1
    subst ey
    obtain ⟨hne, hk, hk0, hz, q⟩ := h
    have hl := r1.length
    by_cases h2 : 2 ≤ k
    · refine op_repT pn0 s σ H _ _ v u Q I rx ry ⟨l, k, vs, rfl, rfl, SqT.of h1, fun e => hne ?_, h2, hk, by omega, fun p hp => q.tup (r1.rep0 _) hp⟩
      rw [e] at hl
      exact List.length_eq_zero_iff.mp hl.symm
    · cases rx
      obtain ⟨t, rfl⟩ := ry
      obtain ⟨its, rv, ⟨⟨cls, dd, data, sl⟩, ho, hc, n, hd⟩, hs2⟩ := I.tuple (SqT.of h1)
      simp only at hc hd
      subst hc hd
      have ne2 : its.toArray.isEmpty = false := by
        have := rv.length
        cases its with
        | nil => exact absurd (List.length_eq_zero_iff.mp (by rw [← hl]; exact this)) hne
        | cons a b => rfl
      by_cases e1 : k = 1
      · subst e1
        refine wpAny_binaryOp_repeat_ref (T := "tuple") (U := "int") (by decide) ⟨_, ho, rfl⟩ (fun s' => typeIs_int s' 1 t) noFill_tuple_mul F.fills_int_mul F.slot_int_rmul repeat_tuple F.slot_int_index.lookup
          (call_meets F.slot_int_rmul (typeIs_int s 1 t) F.entry_int_rmul (F.args_int_rmul_2 _ _) (int_rmul_tuple 1 t l its.toArray n dd sl)
            ⟨ho, rfl, ⟨_, ho, rfl⟩, call_meets F.slot_tuple_mul ⟨_, ho, rfl⟩ F.entry_tuple_mul (F.args_tuple_mul_2 _ _) (tmul_1 l its.toArray n dd sl t) ⟨ho, ?_⟩⟩)
        refine ⟨.ref l, H, I, rfl, ?_⟩
        have e2 : (List.replicate (1 : Int).toNat xs).flatten = xs := by show (List.replicate 1 xs).flatten = xs; simp
        rw [e2] at q
        exact q.same hx
      · have c0 : (decide (k < -(2 ^ 63)) || decide (k ≥ 2 ^ 63)) = false := by rw [decide_eq_false (by omega), decide_eq_false (by omega)]; rfl
        have c1 : (its.toArray.isEmpty || k == 1) = false := by rw [ne2, Bool.false_or]; exact beq_eq_false_iff_ne.mpr e1
        have c2 : (decide (k ≤ 0) || its.toArray.isEmpty) = true := by rw [decide_eq_true (by omega)]; rfl
        refine wpAny_binaryOp_repeat_ref (T := "tuple") (U := "int") (by decide) ⟨_, ho, rfl⟩ (fun s' => typeIs_int s' k t) noFill_tuple_mul F.fills_int_mul F.slot_int_rmul repeat_tuple F.slot_int_index.lookup  -- so
          (call_meets F.slot_int_rmul (typeIs_int s k t) F.entry_int_rmul (F.args_int_rmul_2 _ _) (int_rmul_tuple k t l its.toArray n dd sl)  -- so
            ⟨ho, rfl, ⟨_, ho, rfl⟩, call_meets F.slot_tuple_mul ⟨_, ho, rfl⟩ F.entry_tuple_mul (F.args_tuple_mul_2 _ _) (tmul_0 l its.toArray n dd sl k t c0 c1 c2) ⟨ho, ?_⟩⟩)
        have e2 : (List.replicate k.toNat xs).flatten = [] := by rw [show k.toNat = 0 by omega]; rfl
        rw [e2] at q
        exact ⟨.ref s.heap.objs.size, _, I.laid (t' := s.toks) (o := .tup []) (fun b ob q => Heap.get?_push_of_some _ q) (Nat.le_refl _) ⟨Nat.zero_le _, [], .nil, IsTup.new _ _⟩, rfl, q.tup .nil (I.hok.fresh (Nat.le_refl _))⟩
  · exact h.elim
/-! ### the nodes -/
theorem bi_op {y : Str} {id : String} {i : Nat} {P : List DL.D → (Sl → Prop) → Prop} {hm : ∀ ds (Q Q' : Sl → Prop), P ds Q → (∀ s, Q s → Q' s) → P ds Q'} {q : Pos} (B : CB X c N sc fx) (hT : T.ctr i = opC P hm) (hc : CallR X (.builtin id) (opR c P)) (hg : glC sc y = true) (hb : y ∈ biN) (hv : bootBuiltins y = some (.builtin id)) (hn : y ≠ "__name__")
    (ha : PA X (e :: es) (tAll (rs.map (rdE c m T W)))) (he : starEach (e :: es) X.env = (false, eval e X.env) :: starEach es X.env := by rfl) (hpl : (backTo pos (starEach es X.env)).any (·.1) = false := by rfl) : PE X (.Call (.Name y q) (e :: es) [] pos) (rdE c m T W (.call i rs)) :=
  (pe_callB hc (B.gl hg).1 (B.bl y hb) hv ha hn (B.gl hg).2 he hpl).imp' fun σ H Q h => tAll_mono (H := H) (Q := fun _ _ => True) (Q' := fun _ _ => True) (call_read h) fun xs H1 q => by rw [hT] at q; exact op_read q
theorem bin_op {op : Operator} {i : Nat} {P : List DL.D → (Sl → Prop) → Prop} {hm : ∀ ds (Q Q' : Sl → Prop), P ds Q → (∀ s, Q s → Q' s) → P ds Q'} (hT : T.ctr i = opC P hm) (ho : OpR X (binaryOp op) fun x y H Q => opR c P [x, y] H Q) (ha : PE X a (rdE c m T W ra)) (hb : PE X b (rdE c m T W rb)) : PE X (.BinOp a op b pos) (rdE c m T W (.call i [ra, rb])) :=
  (pe_op ho ha hb).imp' fun σ H Q h => by
    have h1 : tAll ([ra, rb].map (rdE c m T W)) σ H fun xs H1 => spC c (T.ctr i) (T.len i).length xs H1 Q (WE W σ) := call_read h
    exact rdE_mono h1 fun x H1 h2 => rdE_mono h2 fun y H2 q => by rw [hT] at q; exact op_read q
/-- what is never come to -/
theorem dead_no {i : Nat} {D : Ends} {σ : L2.St} {H : Hp} (hT : T.ctr i = opC P_dead m_dead) (h : rdS c m T W (.exp (.call i [])) D σ H) : False := by
  obtain ⟨env, Z, F, S, h⟩ := h
  simp only [wpS, wpE, wpEs] at h
  unfold callQ at h
  split at h
  · exact h
  · have := h.2.2
    rw [hT] at this
    obtain ⟨_, _, q⟩ := this
    exact q
theorem s_dead {i : Nat} (hT : T.ctr i = opC P_dead m_dead) : PS X st (rdS c m T W (.exp (.call i []))) := ⟨fun _ _ _ _ _ _ h => (dead_no hT h).elim⟩
end
end DL
end
section
set_option Elab.async false
set_option linter.all false
set_option maxRecDepth 100000
set_option maxHeartbeats 3900000
/-! DL37: enumerate and zip of lists and tuples in any mix. -/
namespace DL
open PySem PySem.Spec L2 PyProof.Rows

/-- a list (true) or a tuple -/
def SqK (K : PySem.W.Frag) (H : Hp) (a : Addr) (xs : List V) : Bool → Prop
  | true => SqL K H a xs
  | false => SqT K H a xs
def IsK (h : Heap) (a : Addr) (its : Array Value) : Bool → Prop
  | true => h.IsList a its
  | false => h.IsTuple a its
def ItK (h : Heap) (it a : Addr) (i : Nat) : Bool → Prop
  | true => h.IsListIter it a i
  | false => h.IsTupleIter it a i
def itO (a : Addr) : Bool → Obj
  | true => { cls := .type "list_iterator", data := .fields #[.ref a, .int 0 0] }
  | false => { cls := .type "tuple_iterator", data := .fields #[.ref a, .int 0 0] }
section
variable {prog : Program} {w : World} {A : Around} {h h' : Heap} {it a : Addr} {i : Nat} {its : Array Value}
theorem drawsK (k : Bool) (hh : A.handled = none) (ne : a ≠ it) : Draws prog w A it [it, a] its.size (fun i v => its[i]? = some v) fun i h => ItK h it a i k ∧ IsK h a its k := by
  cases k
  · exact Draws.tuple hh it a ne its
  · exact Draws.list hh it a ne its
theorem drawsE (k : Bool) (hh : A.handled = none) (its : Array Value) : Draws prog w A it [it, a] 0 (fun _ _ => False) fun _ h => ∃ i, its.size ≤ i ∧ ItK h it a i k ∧ IsK h a its k where
  live := fun _ h ⟨i, _, h1, _⟩ => by cases k <;> (obtain ⟨o, e, _⟩ := h1; exact ⟨o, e⟩)
  frame := fun _ h h' ⟨i, hi, h1, h2⟩ kp => ⟨i, hi, by
    cases k
    · exact ⟨Heap.IsTupleIter.at h1 fun o e => kp it (by simp) o e, Heap.IsTuple.at h2 fun o e => kp a (by simp) o e⟩
    · exact ⟨Heap.IsListIter.at h1 fun o e => kp it (by simp) o e, Heap.IsList.at h2 fun o e => kp a (by simp) o e⟩⟩
  item := fun i _ _ _ hi => absurd hi (Nat.not_lt_zero i)
  done := fun s Q E ⟨i, hi, h1, h2⟩ hE => by
    have hn : its[i]? = none := by simp [hi]
    cases k
    · exact wpAny_nextOf_tuple_end hh h1 h2 hn hE
    · exact wpAny_nextOf_list_end hh h1 h2 hn hE
theorem beginsK (k : Bool) : Begins (.ref a) (itO a k) fun h => IsK h a its k := by
  cases k
  · exact begins_tuple a its
  · exact begins_list a its
theorem itK_obj {k : Bool} (h1 : ItK h it a i k) : ∃ o, h.get? it = some o ∧ ∀ v, o.data ≠ .cell v := by
  cases k <;> (obtain ⟨o, e, _, d⟩ := h1; exact ⟨o, e, fun v q => by rw [d] at q; cases q⟩)
theorem itK_keep {k : Bool} (h1 : ItK h it a i k) (e : ∀ o, h.get? it = some o → h'.get? it = some o) : ItK h' it a i k := by
  cases k
  · exact Heap.IsTupleIter.at h1 e
  · exact Heap.IsListIter.at h1 e
theorem isK_keep {k : Bool} (h1 : IsK h a its k) (e : ∀ o, h.get? a = some o → h'.get? a = some o) : IsK h' a its k := by
  cases k
  · exact Heap.IsTuple.at h1 e
  · exact Heap.IsList.at h1 e
theorem isK_there {k : Bool} (h1 : IsK h a its k) : a < h.objs.size := by
  cases k <;> (obtain ⟨o, e, _⟩ := h1; exact Heap.lt_size e)
/-- what is walked is not the walker -/
theorem isK_ne {k k2 : Bool} {b : Addr} (h1 : IsK h a its k) (h2 : ItK h it b i k2) : a ≠ it := by
  intro e
  subst e
  have d1 : ∃ o n, h.get? a = some o ∧ o.data = .seq its n := by
    cases k <;> (obtain ⟨o, e, _, n, d⟩ := h1; exact ⟨o, n, e, d⟩)
  have d2 : ∃ o vs, h.get? a = some o ∧ o.data = .fields vs := by
    cases k2 <;> (obtain ⟨o, e, _, d⟩ := h2; exact ⟨o, _, e, d⟩)
  obtain ⟨o, n, e1, d1⟩ := d1
  obtain ⟨o2, vs, e2, d2⟩ := d2
  rw [e1] at e2
  cases e2
  rw [d1] at d2
  cases d2
end
theorem I_sq {X : Cx} {pn0 : List (Addr × Obj)} {σ : L2.St} {H : Hp} {s : Shared} {a : Addr} {xs : List V} (k : Bool) (I : Inv X pn0 σ H s) (h : SqK X.K H a xs k) : ∃ its, Vals xs its ∧ IsK s.heap a its.toArray k := by
  cases k
  · obtain ⟨its, rv, p, _⟩ := I.tuple h
    exact ⟨its, rv, p⟩
  · obtain ⟨its, rv, p, _⟩ := I.list h
    exact ⟨its, rv, p.isList⟩
theorem sq_inj {X : Cx} {pn0 : List (Addr × Obj)} {σ : L2.St} {H : Hp} {s : Shared} {a : Addr} {xs ys : List V} {k : Bool} (I : Inv X pn0 σ H s) (h1 : SqK X.K H a xs k) (h2 : SqK X.K H a ys k) : xs = ys := by
  cases k
  · exact I.tuple_inj h1 h2
  · exact I.list_inj h1 h2
/-! ### enumerate -/
theorem enum_new1 {v : Value} {o : Obj} {H : Heap → Prop} (B : Begins v o H) :
    Meets (Builtin.«enumerate.__new__» ⟨[.type "enumerate", v], []⟩) fun _ R s => H s.heap ∧ R (.ok (.ret (.ref (s.heap.push o).objs.size))) { s with heap := (s.heap.push o).push { cls := .type "enumerate", data := .fields #[.none, .bool false, .ref s.heap.objs.size, rawInt 0, .none, .none] } } :=
  .of_wp fun prog w A R s h => by  -- so
    obtain ⟨hp, g, d, tk, os⟩ := s  -- so
    obtain ⟨h1, h⟩ := h
    have hsub := sub_enumerate
    have q1 : ∀ {A' : Around} {E : Value → Shared → Prop} {Q : Value → Shared → Prop}, Q (.ref hp.objs.size) ⟨hp.push o, g, d, tk, os⟩ → wpAny (model prog w) A' (pyIter v) Q E ⟨hp, g, d, tk, os⟩ := fun q => B.iter prog w _ _ ⟨hp, g, d, tk, os⟩ _ h1 q
    wp_walk using q1
    refine wpAny_stack_any fun st => wpAny_pure ?_  -- so
    split
    · rename_i c _ _ _ _ _
      cases (c == Value.type "enumerate") <;> (wp_walk using q1; exact ⟨_, rfl, h⟩)
    · wp_walk using q1
      exact ⟨_, rfl, h⟩
theorem enum_call1 {prog : Program} {w : World} {A : Around} {E : Value → Shared → Prop} {s : Shared} {v : Value} {o : Obj} {H : Heap → Prop} {Q : Value → Shared → Prop} (B : Begins v o H) (h1 : H s.heap)
    (h : ∀ h', IsEnum h' (s.heap.objs.size + 1) s.heap.objs.size 0 .none → h'.get? s.heap.objs.size = some o → (∀ b o, s.heap.get? b = some o → h'.get? b = some o) → Q (.ref (s.heap.objs.size + 1)) { s with heap := h' }) :
    wpAny (model prog w) A (call (.type "enumerate") [v]) Q E s := by
  refine callType_new F.called_enumerate (by decide) (F.typeCall_enumerate_1 _) (F.newCall_enumerate_1 _) (fun obj => F.args_object_init_2 obj _) F.entry_enumerate_new (enum_new1 B) ⟨h1, ?_⟩
  have hz : (s.heap.push o).objs.size = s.heap.objs.size + 1 := Heap.size_push ..  -- so
  show _ ∧ _
  rw [hz]
  have he := Heap.get?_push_size (s.heap.push o) (o := { cls := .type "enumerate", data := .fields #[.none, .bool false, .ref s.heap.objs.size, rawInt 0, .none, .none] }) rfl
  rw [hz] at he
  exact ⟨⟨_, he, rfl⟩, h _ he (Heap.get?_push_of_some _ (Heap.get?_push_size _ B.free)) fun b o x => Heap.get?_push_of_some _ (Heap.get?_push_of_some _ x)⟩
/-- each item in a new pair behind its number -/
def IteK (K : PySem.W.Frag) (a : Addr) (k : Bool) : It :=
  ⟨fun i H => ∃ (xs : List V) (x : V), SqK K H a xs k ∧ xs[i]? = some x, fun i H v H' => ∃ T x, v = .ref T ∧ H T = none ∧ H' = upd H T (.tup [.int (i : Nat), x]) ∧ ∀ xs, SqK K H a xs k → xs[i]? = some x, fun i H => ∃ xs : List V, SqK K H a xs k ∧ xs.length ≤ i⟩
theorem turn_enumK {P : Program} {w : World} {K : PySem.W.Frag} {elts : List Expr} {kk : Nat} {tp : Pos} (k : Bool) (a e it : Addr) :
    Turn P w K (.Tuple elts kk tp) (IteK K a k) [e, it] e fun i h => (∃ old, IsEnum h e it ((i : Nat) : Int) old) ∧ ItK h it a i k ∧ e ≠ it where
  mem := by simp
  obj := fun i h st b hb => by
    obtain ⟨⟨old, he⟩, hi, _⟩ := st
    simp only [List.mem_cons, List.not_mem_nil, or_false] at hb  -- so
    rcases hb with rfl | rfl
    · exact ⟨_, he, fun v q => nomatch q⟩
    · exact itK_obj hi
  keep := fun i h h' st kp => by
    obtain ⟨⟨old, he⟩, hi, hne⟩ := st
    exact ⟨⟨old, kp e (by simp) _ he⟩, itK_keep hi fun o q => kp it (by simp) o q, hne⟩
  item := by
    intro X hP hw hK hc i pn0 s σ H E I hf st hg
    subst hP hw hK
    obtain ⟨⟨old, he⟩, hi, hne⟩ := st
    obtain ⟨xs, x, hq, hx⟩ := hg
    obtain ⟨its, rv, p⟩ := I_sq k I hq
    obtain ⟨u, hu, ru⟩ := rv.get hx  -- so
    have hel : e < s.heap.objs.size := Heap.lt_size he  -- so
    have ane : a ≠ it := isK_ne p hi
    have ea : e ≠ a := fun q => by
      subst q
      have : ∃ o n, s.heap.get? e = some o ∧ o.data = .seq its.toArray n := by cases k <;> (obtain ⟨o, e, _, n, d⟩ := p; exact ⟨o, n, e, d⟩)
      obtain ⟨o, n, e1, d1⟩ := this
      have e2 := he.symm.trans e1
      cases e2
      cases d1
    have hil : it < s.heap.objs.size := by obtain ⟨o, q, _⟩ := itK_obj hi; exact Heap.lt_size q
    have lt : i < its.toArray.size := by
      have := (List.getElem?_eq_some_iff.mp hu).1
      simpa using this
    refine wpAny_pyNext_enum_itemC (drawsK k (A := X.A.in1) (I.ok.hd hc) ane) he ⟨hi, p⟩ lt hne (by simp [hne, ea]) fun x' h' tk hx' ho st' hT hsz hk => ?_
    have hx2 : x' = u := by
      have h1 : its.toArray[i]? = some x' := hx'
      have h2 : its.toArray[i]? = some u := by simpa using hu
      rw [h2] at h1
      exact (Option.some.inj h1).symm  -- so
    subst hx2
    refine ⟨_, rfl, wpAny_letOwnedTupleGo_enum (s := { s with heap := h', toks := tk + 1 }) ho fun h'' he' sb => ?_⟩
    have hT2 : h''.get? s.heap.objs.size = some { cls := .type "tuple", data := .seq #[.int i tk, x'] } := (sb.2 _ (Nat.ne_of_gt hel)).trans hT
    have new : ObjOk X.prog X.w (upd H s.heap.objs.size (.tup [.int (i : Nat), x])) h'' s.heap.objs.size (.tup [.int (i : Nat), x]) := ⟨by show 2 ≤ sizeLine; decide, [.int i tk, x'], .cons ⟨_, rfl⟩ (.cons ru .nil), ⟨_, hT2, rfl, _, rfl⟩⟩
    have I1 : Inv X pn0 σ (upd H s.heap.objs.size (.tup [.int (i : Nat), x])) { s with heap := h'', toks := tk + 1 } :=
      I.turnedNew (ch := [e, it]) (fun b ob hb q => (sb.2 b fun z => hb (by simp [z])).trans (hk b ob (fun z => hb (by simp [z])) (fun z => hb (by simp [z])) q)) hf (Nat.le_refl _) new
    refine ⟨.ref s.heap.objs.size, _, I1, rfl, ⟨_, x, rfl, I.hok.fresh (Nat.le_refl _), rfl, fun ys hy => by rw [sq_inj I hy hq]; exact hx⟩, ⟨⟨x', ?_⟩, itK_keep st'.1 fun o q => (sb.2 it (Ne.symm hne)).trans q, hne⟩, fun b hb => ?_⟩
    · have e1 : ((i + 1 : Nat) : Int) = (i : Int) + 1 := by omega  -- so
      rw [e1]; exact he'
    · have hb' : b < s.heap.objs.size := by  -- so
        simp only [List.mem_cons, List.not_mem_nil, or_false] at hb  -- so
        rcases hb with rfl | rfl
        · exact hel
        · exact hil
      rw [upd_ne (Nat.ne_of_lt hb')]  -- so
      exact (hf b hb).1
  done := by
    intro X hP hw hK hc i pn0 s σ H E I hf st hg
    subst hP hw hK
    obtain ⟨⟨old, he⟩, hi, hne⟩ := st
    obtain ⟨xs, hq, hx⟩ := hg
    obtain ⟨its, rv, p⟩ := I_sq k I hq
    obtain ⟨f0, f1, f2, f3, f4, f5⟩ := hf it (by simp)  -- so
    have hl := rv.length
    exact wpAny_pyNext_enum_endD (drawsE (it := it) (a := a) k (A := X.A.in1) (I.ok.hd hc) its.toArray) he ⟨i, by rw [List.size_toArray]; omega, hi, p⟩ fun h' eb => ⟨rfl, I.turned (t' := s.toks) (fun b o hb q => eb b o hb q) f0 f1 f3 f4 f5⟩
  self := fun A i s Q E st h => by  -- so
    obtain ⟨⟨_, he⟩, _⟩ := st
    exact wpAny_pyIter_enum he h
/-! ### zip -/
def ItzK (K : PySem.W.Frag) (a b : Addr) (k l : Bool) : It :=
  ⟨fun i H => ∃ (xs ys : List V) (x y : V), SqK K H a xs k ∧ SqK K H b ys l ∧ xs[i]? = some x ∧ ys[i]? = some y,
    fun i H v H' => ∃ T x y, v = .ref T ∧ H T = none ∧ H' = upd H T (.tup [x, y]) ∧ (∀ xs, SqK K H a xs k → xs[i]? = some x) ∧ ∀ ys, SqK K H b ys l → ys[i]? = some y,
    fun i H => ∃ xs ys : List V, SqK K H a xs k ∧ SqK K H b ys l ∧ ((i = xs.length ∧ i ≤ ys.length) ∨ (i = ys.length ∧ i ≤ xs.length))⟩
theorem turn_zipK {P : Program} {w : World} {K : PySem.W.Frag} {elts : List Expr} {kk : Nat} {tp : Pos} {a b z TI TO i1 i2 : Addr} (k l : Bool) (S : ZipSep2 z TI TO i1 i2 [i1, a] [i2, b]) (n1 : a ≠ i1) (n2 : b ≠ i2) :
    Turn P w K (.Tuple elts kk tp) (ItzK K a b k l) [z, TI, TO, i1, i2] z fun i h => IsZip h z TI TO .none ∧ IsTupOf2 h TI (.ref i1) (.ref i2) ∧ (∃ x y, IsTupOf2 h TO x y) ∧ ItK h i1 a i k ∧ ItK h i2 b i l where
  mem := by simp
  obj := fun i h st c hc => by
    obtain ⟨hz, hTI, ⟨x, y, hTO⟩, h1, h2⟩ := st  -- so
    simp only [List.mem_cons, List.not_mem_nil, or_false] at hc
    rcases hc with rfl | rfl | rfl | rfl | rfl
    · exact ⟨_, hz, fun v q => nomatch q⟩
    · exact ⟨_, hTI, fun v q => nomatch q⟩
    · exact ⟨_, hTO, fun v q => nomatch q⟩
    · exact itK_obj h1
    · exact itK_obj h2
  keep := fun i h h' st kp => by
    obtain ⟨hz, hTI, ⟨x, y, hTO⟩, h1, h2⟩ := st  -- so
    exact ⟨kp z (by simp) _ hz, kp TI (by simp) _ hTI, ⟨x, y, kp TO (by simp) _ hTO⟩, itK_keep h1 fun o q => kp i1 (by simp) o q, itK_keep h2 fun o q => kp i2 (by simp) o q⟩
  item := by
    intro X hP hw hK hc i pn0 s σ H E I hf st hg
    subst hP hw hK
    obtain ⟨hz, hTI, ⟨x0, y0, hTO⟩, h1, h2⟩ := st  -- so
    obtain ⟨xs, ys, x, y, hqx, hqy, hx, hy⟩ := hg  -- so
    obtain ⟨its, rv, p⟩ := I_sq k I hqx
    obtain ⟨its2, rv2, p2⟩ := I_sq l I hqy
    obtain ⟨u, hu, ru⟩ := rv.get hx  -- so
    obtain ⟨u2, hu2, ru2⟩ := rv2.get hy  -- so
    have hzl : z < s.heap.objs.size := Heap.lt_size hz  -- so
    have lt1 : i < its.toArray.size := by simpa using (List.getElem?_eq_some_iff.mp hu).1
    have lt2 : i < its2.toArray.size := by simpa using (List.getElem?_eq_some_iff.mp hu2).1
    refine wpAny_pyNext_zipD2_item S (drawsK k (A := X.A.in1) (I.ok.hd hc) n1) (drawsK l (A := X.A.in1) (I.ok.hd hc) n2) hz hTI hTO ⟨h1, p⟩ ⟨h2, p2⟩ lt1 lt2 fun x1 x2 h' tk e1 e2 z' TO' st1 st2 hT hsz hk => ?_
    have q1 : x1 = u := by
      have a1 : its.toArray[i]? = some x1 := e1
      have a2 : its.toArray[i]? = some u := by simpa using hu
      rw [a2] at a1; exact (Option.some.inj a1).symm
    have q2 : x2 = u2 := by
      have a1 : its2.toArray[i]? = some x2 := e2
      have a2 : its2.toArray[i]? = some u2 := by simpa using hu2
      rw [a2] at a1; exact (Option.some.inj a1).symm
    subst q1 q2
    refine ⟨_, rfl, wpAny_letOwnedTupleGo_zip (s := { s with heap := h', toks := tk }) z' fun h'' z'' sb => ?_⟩
    have hT2 : h''.get? s.heap.objs.size = some { cls := .type "tuple", data := .seq #[x1, x2] } := (sb.2 _ (Nat.ne_of_gt hzl)).trans hT
    have new : ObjOk X.prog X.w (upd H s.heap.objs.size (.tup [x, y])) h'' s.heap.objs.size (.tup [x, y]) := ⟨by show 2 ≤ sizeLine; decide, [x1, x2], .cons ru (.cons ru2 .nil), ⟨_, hT2, rfl, _, rfl⟩⟩
    have I1 : Inv X pn0 σ (upd H s.heap.objs.size (.tup [x, y])) { s with heap := h'', toks := tk } :=
      I.turnedNew (ch := [z, TI, TO, i1, i2]) (fun c o hb q => (sb.2 c (fun q' => hb (by simp [q']))).trans (hk c o (fun q' => hb (by simp [q'])) (fun q' => hb (by simp [q'])) (fun q' => hb (by simp [q'])) (fun q' => hb (by simp [q'])) q)) hf (Nat.le_refl _) new
    refine ⟨.ref s.heap.objs.size, _, I1, rfl, ⟨_, x, y, rfl, I.hok.fresh (Nat.le_refl _), rfl, fun l hl => by rw [sq_inj I hl hqx]; exact hx, fun l hl => by rw [sq_inj I hl hqy]; exact hy⟩, ⟨z'', ?_, ⟨x1, x2, ?_⟩, ?_, ?_⟩, fun c hcm => ?_⟩
    · exact (sb.2 _ S.TIz).trans (hk _ _ S.TIz S.TITO S.TIi1 S.TIi2 hTI)
    · exact (sb.2 _ S.TOz).trans TO'
    · exact itK_keep st1.1 fun o q => (sb.2 _ (Ne.symm S.zi1)).trans q
    · exact itK_keep st2.1 fun o q => (sb.2 _ (Ne.symm S.zi2)).trans q
    · have hlt : c < s.heap.objs.size := by  -- so
        simp only [List.mem_cons, List.not_mem_nil, or_false] at hcm
        rcases hcm with rfl | rfl | rfl | rfl | rfl
        · exact hzl
        · exact Heap.lt_size hTI
        · exact Heap.lt_size hTO
        · obtain ⟨o, q, _⟩ := itK_obj h1; exact Heap.lt_size q
        · obtain ⟨o, q, _⟩ := itK_obj h2; exact Heap.lt_size q
      rw [upd_ne (Nat.ne_of_lt hlt)]  -- so
      exact (hf c hcm).1
  done := by
    intro X hP hw hK hc i pn0 s σ H E I hf st hg
    subst hP hw hK
    obtain ⟨hz, hTI, ⟨x0, y0, hTO⟩, h1, h2⟩ := st  -- so
    obtain ⟨xs, ys, hqx, hqy, hend⟩ := hg  -- so
    obtain ⟨its, rv, p⟩ := I_sq k I hqx
    obtain ⟨its2, rv2, p2⟩ := I_sq l I hqy
    have l1 := rv.length
    have l2 := rv2.length
    have s1 : its.toArray.size = its.length := List.size_toArray
    have s2 : its2.toArray.size = its2.length := List.size_toArray
    exact wpAny_pyNext_zipD2_end S (drawsK k (A := X.A.in1) (I.ok.hd hc) n1) (drawsK l (A := X.A.in1) (I.ok.hd hc) n2) hz hTI hTO ⟨h1, p⟩ ⟨h2, p2⟩ (by omega) (by omega) (by omega) fun h' tk hk => ⟨rfl, I.turnedL (ch := [z, TI, TO, i1, i2]) (fun c o hb q =>
      hk c o (fun q' => hb (by simp [q'])) (fun q' => hb (by simp [q'])) (fun q' => hb (by simp [q'])) (fun q' => hb (by simp [q'])) q) hf⟩  -- so
  self := fun A i s Q E st h => wpAny_pyIter_zip st.1 h  -- so
/-! ### sources -/
def datK : Bool → List DL.D → DL.D
  | true, ds => .lst ds
  | false, ds => .tup ds
section
variable {X : Cx} {c : Cn} {m : Am} {T : Txt} {W : WX} {N : List Str} {sc scope : Scope} {fx : Str → Bool} {e e2 a b : Expr} {elts : List Expr} {kk : Nat} {tp : Pos} {r ra rb : RE} {pos p : Pos}
theorem iv_sqK {H : Hp} {Z : Zn} {x : V} {ds : List DL.D} (k : Bool) (h : IV c H Z x (datK k ds)) : ∃ a vs, x = .ref a ∧ SqK c.K H a vs k ∧ Rs c.K H Z 0 vs ds [] := by
  cases k
  · obtain ⟨a, vs, e, h1, r⟩ := IV.tup h
    exact ⟨a, vs, e, SqT.of h1, r⟩
  · obtain ⟨a, vs, e, h1, r⟩ := h
    exact ⟨a, vs, e, .inl (.inl h1), r⟩
theorem seqOf_k {d : DL.D} {ds : List DL.D} (h : seqOf d = some ds) : ∃ k, d = datK k ds := by
  cases d with
  | tup xs => cases h; exact ⟨false, rfl⟩
  | lst xs => cases h; exact ⟨true, rfl⟩
  | _ => cases h
theorem walk_enumK {a : Addr} {ds : List DL.D} (k : Bool) : DL.Walks c (IteK c.K a k) [.ref a] [datK k ds] (enumD ds) := by
  intro H Z h
  obtain ⟨d, e, h⟩ := ivs_one h
  cases e
  obtain ⟨a', vs, e, h1, r⟩ := iv_sqK k h
  cases e
  have hl := r.length
  have hn : (enumD ds).length = ds.length := by simp [enumD]
  rw [hn]
  refine ⟨fun i hi => ?_, fun i hi => ⟨vs, h1, by omega⟩, fun i x H' hy hi => ?_⟩
  · obtain ⟨v, hv⟩ := lt_get (l := vs) (i := i) (by omega)
    exact ⟨vs, v, h1, hv⟩
  · obtain ⟨T, v, rfl, hT, rfl, hx⟩ := hy
    obtain ⟨d, hd, rd⟩ := r.atV (hx vs h1)
    refine ⟨grow_upd hT, .tup [.int (i : Nat), d], by simp [enumD, hd], Rep.mk_tup upd_same (.int _ (rd.grow (grow_upd hT)))⟩
theorem walk_zipK {a b : Addr} {ds es : List DL.D} (k l : Bool) : DL.Walks c (ItzK c.K a b k l) [.ref a, .ref b] [datK k ds, datK l es] (List.zipWith (fun x y => .tup [x, y]) ds es) := by
  intro H Z h
  obtain ⟨d, e, q, h, h2⟩ := ivs_two h
  cases q
  obtain ⟨a', vs, q, h1, r⟩ := iv_sqK k h
  cases q
  obtain ⟨b', ws, q, h3, r3⟩ := iv_sqK l h2
  cases q
  have hl := r.length
  have hl2 := r3.length
  rw [List.length_zipWith]
  refine ⟨fun i hi => ?_, fun i hi => ⟨vs, ws, h1, h3, by omega⟩, fun i x H' hy hi => ?_⟩
  · obtain ⟨v, hv⟩ := lt_get (l := vs) (i := i) (by omega)
    obtain ⟨w, hw⟩ := lt_get (l := ws) (i := i) (by omega)
    exact ⟨vs, ws, v, w, h1, h3, hv, hw⟩
  · obtain ⟨T, v, w, rfl, hT, rfl, hx, hy⟩ := hy
    obtain ⟨d, hd, rd⟩ := r.atV (hx vs h1)
    obtain ⟨d2, hd2, rd2⟩ := r3.atV (hy ws h3)
    exact ⟨grow_upd hT, .tup [d, d2], by simp [List.getElem?_zipWith, hd, hd2], Rep.mk_tup upd_same (Rs.cons (rd.grow (grow_upd hT)) (rd2.grow (grow_upd hT)) Dj.nil_l)⟩
theorem itO_it {h : Heap} {a it : Addr} (k : Bool) (e : h.get? it = some (itO a k)) : ItK h it a 0 k := by cases k <;> exact ⟨_, e, rfl, rfl⟩
theorem i_enum (B : CB X c N sc fx) (hg : glC sc "enumerate" = true) (ha : PE X e (rdE c m T W r)) (hs : starEach [e] X.env = [(false, eval e X.env)] := by rfl) : PI X (.Tuple elts kk tp) (.Call (.Name "enumerate" p) [e] [] pos) (rdI c m T W .enum [r]) := by
  refine ⟨fun pn0 s σ H R I h => ?_⟩
  have h1 : rdE c m T W r σ H fun x H1 => sI c .enum R [x] H1 := src_read h
  refine Call_ (ld_blt I (B.gl hg).1 (B.bl _ (by simp)) boot_enumerate (PyProof.Rows.callWith_type1 (thn ((a_cons (rs := []) ha a_nil hs).run pos pn0 s σ H (fun vs H1 => sI c .enum R vs H1) I h1) fun us s1 ⟨vs, H1, I1, r1, q1⟩ => ?_) hs rfl))
  obtain ⟨Z, gs, h2, h3⟩ := q1
  match gs, h3 with
  | [d], h3 =>
    simp only [srcD] at h3
    split at h3
    · rename_i ds hq
      obtain ⟨k, rfl⟩ := seqOf_k hq
      have hl := ivs_len h2
      match vs, hl, r1, h2 with
      | [x], _, r1, h2 =>
        obtain ⟨d, e, h4⟩ := ivs_one h2
        cases e
        obtain ⟨a, vs, rfl, h5, _⟩ := iv_sqK k h4
        rw [Vals.ref1 r1]
        rw [B.hK] at h5
        obtain ⟨its, rv, p⟩ := I_sq k I1 h5
        refine enum_call1 (beginsK (a := a) (its := its.toArray) k) p fun h' he hit hk => wpAny_pyIter_enum he ?_
        have I2 : Inv X pn0 σ H1 { s1 with heap := h' } := I1.kept (t' := s1.toks) hk
        refine ⟨s1.heap.objs.size + 1, [s1.heap.objs.size + 1, s1.heap.objs.size], _, _, H1, rfl, I2, turn_enumK k a (s1.heap.objs.size + 1) s1.heap.objs.size, ⟨⟨.none, he⟩, itO_it k hit, Nat.succ_ne_self _⟩, fun b hb => ?_, h3 _ (by rw [← B.hK]; exact walk_enumK k)⟩
        have hle : s1.heap.objs.size ≤ b := by  -- so
          simp only [List.mem_cons, List.not_mem_nil, or_false] at hb  -- so
          rcases hb with rfl | rfl <;> first | exact Nat.le_refl _ | exact Nat.le_add_right _ _
        exact I1.fpOk hle (I1.hok.fresh hle)  -- so
    · exact h3.elim
  | [], h3 => simp only [srcD] at h3
  | _ :: _ :: _, h3 => simp only [srcD] at h3
theorem i_zip (B : CB X c N sc fx) (hg : glC sc "zip" = true) (ha : PE X a (rdE c m T W ra)) (hb : PE X b (rdE c m T W rb)) (hs : starEach [a, b] X.env = (false, eval a X.env) :: starEach [b] X.env := by rfl) (hs2 : starEach [b] X.env = [(false, eval b X.env)] := by rfl) (hpl : (backTo pos (starEach [b] X.env)).any (·.1) = false := by rfl) : PI X (.Tuple elts kk tp) (.Call (.Name "zip" p) [a, b] [] pos) (rdI c m T W .zip [ra, rb]) := by
  refine ⟨fun pn0 s σ H R I h => ?_⟩
  have h1 : rdE c m T W ra σ H fun x H1 => rdE c m T W rb σ H1 fun y H2 => sI c .zip R [x, y] H2 := src_read h
  refine Call_ (ld_blt I (B.gl hg).1 (B.bl _ (by simp)) PyProof.Rows.boot_zip (PyProof.Rows.callWith_type1 (thn ((a_cons (rs := [rb]) ha (a_cons (rs := []) hb a_nil hs2) hs).run pos pn0 s σ H (fun vs H1 => sI c .zip R vs H1) I h1) fun us s1 ⟨vs, H1, I1, r1, q1⟩ => ?_) hs hpl))
  obtain ⟨Z, gs, h2, h3⟩ := q1
  match gs, h3 with
  | [d, e], h3 =>
    simp only [srcD] at h3
    split at h3
    · rename_i ds es hq hq2
      obtain ⟨k, rfl⟩ := seqOf_k hq
      obtain ⟨l, rfl⟩ := seqOf_k hq2
      have hl := ivs_len h2
      match vs, hl, r1, h2 with
      | [x, y], _, r1, h2 =>
        obtain ⟨d, d2, e, h4, h5⟩ := ivs_two h2
        cases e
        obtain ⟨a, vs, rfl, h6, _⟩ := iv_sqK k h4
        obtain ⟨b, ws, rfl, h7, _⟩ := iv_sqK l h5
        cases r1 with
        | cons r rr =>
          cases rr with
          | cons r' rr =>
            cases rr
            cases r
            cases r'
            rw [B.hK] at h6 h7
            obtain ⟨its, rv, p⟩ := I_sq k I1 h6
            obtain ⟨its2, rv2, p2⟩ := I_sq l I1 h7
            have l1 := isK_there p
            have l2 := isK_there p2
            refine zip_begins2 (beginsK (a := a) (its := its.toArray) k) (beginsK (a := b) (its := its2.toArray) l) p p2 fun h' hz hTI hTO g1 g2 hsz hk => wpAny_pyIter_zip hz ?_
            have I2 : Inv X pn0 σ H1 { s1 with heap := h' } := I1.kept (t' := s1.toks) hk
            refine ⟨s1.heap.objs.size + 4, [s1.heap.objs.size + 4, s1.heap.objs.size + 2, s1.heap.objs.size + 3, s1.heap.objs.size, s1.heap.objs.size + 1], _, _, H1, rfl, I2,
              turn_zipK k l (zip_sep2 (fp1 := [a]) (fp2 := [b]) (fun c hc => by rw [List.mem_singleton.mp hc]; exact l1) (fun c hc => by rw [List.mem_singleton.mp hc]; exact l2)) (Nat.ne_of_lt l1) (Nat.ne_of_lt (Nat.lt_succ_of_lt l2)), ⟨hz, hTI, ⟨_, _, hTO⟩, itO_it k g1, itO_it l g2⟩, fun c hb => ?_, h3 _ (by rw [← B.hK]; exact walk_zipK k l)⟩
            have hle : s1.heap.objs.size ≤ c := by  -- so
              simp only [List.mem_cons, List.not_mem_nil, or_false] at hb  -- so
              rcases hb with rfl | rfl | rfl | rfl | rfl <;> first | exact Nat.le_refl _ | exact Nat.le_add_right _ _
            exact I1.fpOk hle (I1.hok.fresh hle)  -- so
    · exact h3.elim
  | [], h3 => simp only [srcD] at h3
  | [_], h3 => simp only [srcD] at h3
  | _ :: _ :: _ :: _, h3 => simp only [srcD] at h3
end
/-! ### x.pop() -/
theorem Rs.splitA {K : PySem.W.Frag} {H : Hp} {Z : Zn} {n : Nat} {es : List DL.D} : ∀ {ds : List DL.D} {vs : List V} {G : List Addr}, Rs K H Z n vs (ds ++ es) G → ∃ v1 v2 G1 G2, vs = v1 ++ v2 ∧ G = G1 ++ G2 ∧ Rs K H Z n v1 ds G1 ∧ Rs K H Z n v2 es G2 ∧ Dj G1 G2
  | [], vs, G, h => ⟨[], vs, [], G, rfl, rfl, .nil, h, Dj.nil_l⟩
  | d :: ds, [], G, h => by have := h.length; simp at this
  | d :: ds, v :: vs, G, h => by
    obtain ⟨F1, F2, rfl, h1, h2, dj⟩ := Rs.cons_inv (show Rs K H Z n (v :: vs) (d :: (ds ++ es)) G from h)
    obtain ⟨v1, v2, G1, G2, rfl, rfl, h3, h4, dj2⟩ := Rs.splitA h2
    refine ⟨v :: v1, v2, F1 ++ G1, G2, rfl, by simp, Rs.cons h1 h3 (dj.sub (fun _ h => h) fun b h => List.mem_append_left _ h), h4, fun b hb hb2 => ?_⟩
    rcases List.mem_append.mp hb with h | h
    · exact dj b h (List.mem_append_right _ hb2)
    · exact dj2 b h hb2
section
variable {X : Cx} {c : Cn} {m : Am} {T : Txt} {W : WX} {N : List Str} {sc : Scope} {fx : Str → Bool} {pos p : Pos} {x : Str}
theorem e_pop {i : Nat} {ap : Pos} (B : CB X c N sc fx) (hv : visC sc N i x = true) (hline : (ap.endLine == pos.line) = true := by rfl) : PE X (.Call (.Attribute (.Name x p) "pop" ap) [] [] pos) (rdE c m T W (.pop i)) := by
  obtain ⟨v1, v2, v3, v4⟩ := B.vis hv
  refine (pe_bm0 PySem.F.plainAttrs_list PySem.F.slot_list_pop PySem.F.type_list_pop mt_pop (pe_var v1 v2 v3 v4) rfl hline).imp' fun σ H Q ⟨env, Z, F, S, h⟩ => ?_
  simp only [wpE] at h
  have go : ∀ (s : Sl) (n : Nat) (xs : List DL.D), env[i]? = some s → (s = .o n (.lst xs) ∨ s = .p n (.lst xs)) → wpE.popQ n xs (fun u ys => PostE c m σ H Z F Q u (env.set i (reS s (.lst ys)))) → tBM0 X.K "list" rPop (tVar i) σ H Q := by
    intro s n xs e hs h
    obtain ⟨x', g1, g2⟩ := own_of S e hs
    obtain ⟨a, ys, G1, rfl, eF, g3, g4, g5⟩ := g2.lst1_inv
    unfold wpE.popQ at h
    split at h
    · rename_i d hd
      obtain ⟨xs', rfl⟩ : ∃ xs', xs = xs' ++ [d] := ⟨xs.dropLast, by
        have hne : xs ≠ [] := fun e => by subst e; cases hd
        rw [List.getLast?_eq_some_getLast hne] at hd
        cases hd
        exact (List.dropLast_concat_getLast hne).symm⟩
      rw [List.dropLast_concat] at h
      obtain ⟨w1, w2, A1, A2, rfl, rfl, r1, r2, dj⟩ := Rs.splitA g4
      obtain ⟨y, rfl⟩ : ∃ y, w2 = [y] := by
        have := r2.length
        match w2, this with
        | [y], _ => exact ⟨y, rfl⟩
      have ha : a ∈ F i := by rw [eF]; exact List.mem_cons_self
      have na1 : a ∉ A1 := fun q => g5 (List.mem_append_left _ q)
      have na2 : a ∉ A2 := fun q => g5 (List.mem_append_right _ q)
      have r1' : Rs c.K (upd H a (.lst w1)) Z n w1 xs' A1 := mod_rs S ha r1 na1
      have r2' : Rs c.K (upd H a (.lst w1)) Z n [y] [d] A2 := mod_rs S ha r2 na2
      obtain ⟨S1, E1⟩ := mod_ok S e hs ha (G1 := a :: A1) (fun b hb => by
        rw [eF]
        rcases List.mem_cons.mp hb with q | q
        · rw [q]; exact List.mem_cons_self
        · exact List.mem_cons_of_mem _ (List.mem_append_left _ q)) g1 (Rep.mk_lst1 upd_same r1' na1)
      have in2 : ∀ b ∈ A2, b ∈ F i := fun b hb => by rw [eF]; exact List.mem_cons_of_mem _ (List.mem_append_right _ hb)
      have sp : Sep Z (fset F i (a :: A1)) A2 := ⟨fun b hb => S.zn i b (in2 b hb), fun b hb j hj => by
        by_cases q : j = i
        · rw [q, fset_same] at hj
          rcases List.mem_cons.mp hj with q | q
          · exact na2 (q ▸ hb)
          · exact dj b q hb
        · rw [fset_ne q] at hj
          exact S.dis j i b q hj (in2 b hb)⟩
      refine ⟨.ref a, g1, .inl ⟨rfl, _, .inl (.inl g3)⟩, a, _, y, rfl, rfl, g3, by simp, ?_⟩
      rw [List.dropLast_concat]
      cases n with
      | zero =>
        have := r2'.nilF
        subst this
        exact h y _ Z _ [] E1 S1 ⟨rfl, r2'⟩ sp fun _ hb => by cases hb
      | succ n => exact h y _ Z _ A2 E1 S1 r2' sp fun b hb => .inl ⟨i, in2 b hb⟩
    · exact h.elim
  split at h
  · rename_i n xs e
    exact go _ n xs e (.inl rfl) h
  · rename_i n xs e
    exact go _ n xs e (.inr rfl) h
  · exact h.elim
end
end DL
end
section
set_option Elab.async false
set_option linter.all false
set_option maxRecDepth 100000
set_option maxHeartbeats 3900000
/-! DL38: a list within a list or a dict: d[k].append(..), d[k].pop(), d[k] != []. -/
namespace DL
open PySem PySem.Spec L2 PyProof.Rows

/-! ### data -/
def nstAt : DL.D → DL.D → Option (List DL.D)
  | .lst xs, .int i => match atI xs i with
    | some (.lst ys) => some ys
    | _ => none
  | .dK kvs, k => match keyOf k with
    | some k => match look kvs k with
      | some (.lst ys) => some ys
      | _ => none
    | none => none
  | _, _ => none
def put1 : List (Key × DL.D) → Key → DL.D → List (Key × DL.D)
  | [], _, _ => []
  | (q, e) :: r, k, d => if q = k then (q, d) :: r else (q, e) :: put1 r k d
def nstPut : DL.D → DL.D → List DL.D → DL.D
  | .lst xs, .int i, ys => match ixN xs.length i with
    | some j => .lst (xs.set j (.lst ys))
    | none => .lst xs
  | .dK kvs, k, ys => match keyOf k with
    | some k => .dK (put1 kvs k (.lst ys))
    | none => .dK kvs
  | d, _, _ => d
def P_nne : List DL.D → (Sl → Prop) → Prop
  | [d, k], Q => ∃ ys, nstAt d k = some ys ∧ eqOk (.lst ys) (.lst []) = true ∧ Q (.v (.bl (!ys.isEmpty)))
  | _, _ => False
def P_nhas : List DL.D → (Sl → Prop) → Prop
  | [d, k], Q => ∃ ys, nstAt d k = some ys ∧ Q (.v k)
  | _, _ => False
theorem m_nne : ∀ ds (Q Q' : Sl → Prop), P_nne ds Q → (∀ s, Q s → Q' s) → P_nne ds Q' := by
  intro ds Q Q' h k
  unfold P_nne at h ⊢; split at h
  · obtain ⟨ns, e, e2, q⟩ := h; exact ⟨ns, e, e2, k _ q⟩
  · exact h.elim
theorem m_nhas : ∀ ds (Q Q' : Sl → Prop), P_nhas ds Q → (∀ s, Q s → Q' s) → P_nhas ds Q' := by
  intro ds Q Q' h k
  unfold P_nhas at h ⊢; split at h
  · obtain ⟨ns, e, q⟩ := h; exact ⟨ns, e, k _ q⟩
  · exact h.elim
def nappC : Ctr where
  run := fun ss Q _ => ∃ d k x ys, ss = [.p 1 d, .v k, .v x] ∧ nstAt d k = some ys ∧ ys.length < sizeLine ∧ Q (.v .non) [.p 1 (nstPut d k (ys ++ [x])), .no, .no]
  mono := fun {ss Q Q' E E'} ⟨d, k, x, ys, h1, h2, h3, q⟩ hq _ => ⟨d, k, x, ys, h1, h2, h3, hq _ _ q⟩
def npopC : Ctr where
  run := fun ss Q _ => ∃ d k ys y, ss = [.p 1 d, .v k] ∧ nstAt d k = some (ys ++ [y]) ∧ Q (.v y) [.p 1 (nstPut d k ys), .no]
  mono := fun {ss Q Q' E E'} ⟨d, k, ys, y, h1, h2, q⟩ hq _ => ⟨d, k, ys, y, h1, h2, hq _ _ q⟩

/-! ### values -/
/-- the list at b stands within the list or dict x, at y -/
def NV (H : Hp) (x y : V) (b : Addr) : Prop :=
  (∃ a vs i, x = .ref a ∧ H a = some (.lst vs) ∧ y = .int i ∧ atI vs i = some (.ref b)) ∨ ∃ a ps k, x = .ref a ∧ H a = some (.dK ps) ∧ y = kV k ∧ valV ps k = some (.ref b)
theorem kV_inj {k k' : Key} (h : kV k = kV k') : k = k' := by
  cases k <;> cases k' <;> simp [kV] at h <;> rw [h]
theorem NV.det {H : Hp} {x y : V} {b b' : Addr} (h : NV H x y b) (h' : NV H x y b') : b = b' := by
  rcases h with ⟨a, vs, i, rfl, h1, rfl, h2⟩ | ⟨a, ps, k, rfl, h1, rfl, h2⟩ <;> rcases h' with ⟨a', vs', i', e, h1', e2, h2'⟩ | ⟨a', ps', k', e, h1', e2, h2'⟩ <;> cases e <;> rw [h1] at h1' <;> cases h1'
  · cases e2; rw [h2] at h2'; cases h2'; rfl
  · have := kV_inj e2; subst this; rw [h2] at h2'; cases h2'; rfl
theorem NV.grow {H H' : Hp} {x y : V} {b : Addr} (h : NV H x y b) (g : ∀ a o, H a = some o → H' a = some o) : NV H' x y b := by
  rcases h with ⟨a, vs, i, rfl, h1, rfl, h2⟩ | ⟨a, ps, k, rfl, h1, rfl, h2⟩
  · exact .inl ⟨a, vs, i, rfl, g _ _ h1, rfl, h2⟩
  · exact .inr ⟨a, ps, k, rfl, g _ _ h1, rfl, h2⟩
def rNv : R2 := fun x y H Q => ∃ b, NV H x y b ∧ Q (.ref b) H
theorem ix_nv {X : Cx} (hu : X.A.units + 65 < cLine) : IxR X rNv := by
  intro value slice pn0 s σ H x y v u Q I rx ry h hs
  obtain ⟨b, ⟨a, vs, i, rfl, h1, rfl, h2⟩ | ⟨a, ps, k, rfl, h1, rfl, h2⟩, q⟩ := h
  · exact ix_list value slice pn0 s σ H _ _ v u Q I rx ry ⟨a, vs, i, _, rfl, rfl, .inl (.inl h1), h2, q⟩ hs
  · exact ix_get hu value slice pn0 s σ H _ _ v u Q I rx ry ⟨a, _, rfl, .inl ⟨ps, k, .inl h1, rfl, h2.symm⟩, q⟩ hs
section
variable {K : PySem.W.Frag} {H : Hp} {Z : Zn}
/-- the item j is a list of its own; it is put otherwise -/
theorem Rs.child {ys : List DL.D} : ∀ {ds : List DL.D} {vs : List V} {G : List Addr} (j : Nat), (∀ a ∈ G, ¬ Z a) → Rs K H Z 1 vs ds G → ds[j]? = some (.lst ys) → ∃ b ws, vs[j]? = some (.ref b) ∧ H b = some (.lst ws) ∧ Rs K H Z 0 ws ys [] ∧ b ∈ G ∧
      ∀ ws' ys', Rs K (upd H b (.lst ws')) Z 0 ws' ys' [] → Rs K (upd H b (.lst ws')) Z 1 vs (ds.set j (.lst ys')) G
  | [], _, _, j, _, _, e => by simp at e
  | d :: ds, [], _, j, _, h, _ => by have := h.length; simp at this
  | d :: ds, v :: vs, G, j, hz, h, e => by
    obtain ⟨F1, F2, rfl, h1, h2, dj⟩ := h.cons_inv
    cases j with
    | zero =>
      simp only [List.getElem?_cons_zero, Option.some.injEq] at e  -- so
      subst e
      obtain ⟨b, ws, G1, rfl, rfl, g1, g2, g3⟩ := h1.lst1_inv
      have := g2.nilF
      subst this
      refine ⟨b, ws, rfl, g1, g2, by simp, fun ws' ys' r => ?_⟩
      have r1 : Rep K (upd H b (.lst ws')) Z 1 (.ref b) (.lst ys') [b] := Rep.mk_lst1 upd_same r (by simp)
      have r2 : Rs K (upd H b (.lst ws')) Z 1 vs ds F2 := h2.keep (fun a o q k => by
        rw [upd_ne fun e2 => ?_]; exact q
        subst e2
        rcases k with k | k | k
        · rw [g1] at q; cases q; exact k trivial
        · exact hz _ (by simp) k
        · exact dj _ (by simp) k) fun _ h => h
      exact Rs.cons r1 r2 dj
    | succ j =>
      simp only [List.getElem?_cons_succ] at e
      obtain ⟨b, ws, q1, q2, q3, q4, q5⟩ := Rs.child j (fun a ha => hz a (List.mem_append_right _ ha)) h2 e
      refine ⟨b, ws, q1, q2, q3, List.mem_append_right _ q4, fun ws' ys' r => ?_⟩
      have r1 : Rs K (upd H b (.lst ws')) Z 1 [v] [d] F1 := h1.keep (fun a o q k => by
        rw [upd_ne fun e2 => ?_]; exact q
        subst e2
        rcases k with k | k | k
        · rw [q2] at q; cases q; exact k trivial
        · exact hz _ (List.mem_append_right _ q4) k
        · exact dj _ k q4) fun _ h => h
      exact Rs.cons r1 (q5 ws' ys' r) dj
theorem look_ix {k : Key} {d : DL.D} : ∀ {kvs : List (Key × DL.D)}, look kvs k = some d → ∃ j, (kvs.map (·.2))[j]? = some d ∧ (∀ e, (put1 kvs k e).map (·.2) = (kvs.map (·.2)).set j e ∧ (put1 kvs k e).map (·.1) = kvs.map (·.1)) ∧ ∀ ps : List (Key × V), ps.map (·.1) = kvs.map (·.1) → valV ps k = (ps.map (·.2))[j]?
  | [], h => by cases h
  | (q, e) :: r, h => by
    by_cases hk : q = k
    · have : look ((q, e) :: r) k = some e := by simp [look, List.find?_cons, hk]
      rw [this] at h
      cases h
      refine ⟨0, rfl, fun e' => by simp [put1, hk], fun ps ek => ?_⟩
      match ps, ek with
      | (q', v) :: ps, ek =>
        have : q' = q := by simpa using (List.cons.inj ek).1
        rw [valV_pos (this.trans hk)]
        rfl
    · have : look ((q, e) :: r) k = look r k := by simp [look, List.find?_cons, hk]
      rw [this] at h
      obtain ⟨j, h1, h2, h3⟩ := look_ix h
      refine ⟨j + 1, by simpa using h1, fun e' => by simp [put1, hk, (h2 e').1, (h2 e').2], fun ps ek => ?_⟩
      match ps, ek with
      | (q', v) :: ps, ek =>
        have e1 : q' = q := by simpa using (List.cons.inj ek).1
        have e2 : ps.map (·.1) = r.map (·.1) := (List.cons.inj ek).2
        rw [valV_neg (fun e => hk (e1.symm.trans e)), h3 ps e2]
        rfl
/-- a list within what is owned -/
theorem nst_own {c : Cn} {x y : V} {d k : DL.D} {ys : List DL.D} {G : List Addr} (hz : ∀ a ∈ G, ¬ Z a) (h : Rep c.K H Z 2 x d G) (hy : Rep c.K H Z 0 y k []) (e : nstAt d k = some ys) : ∃ b ws, NV H x y b ∧ H b = some (.lst ws) ∧ Rs c.K H Z 0 ws ys [] ∧ b ∈ G ∧
    ∀ ws' ys', Rs c.K (upd H b (.lst ws')) Z 0 ws' ys' [] → Rep c.K (upd H b (.lst ws')) Z 2 x (nstPut d k ys') G := by
  unfold nstAt at e
  split at e
  · rename_i xs i
    split at e
    · rename_i ys' ha
      cases e
      obtain ⟨a, vs, G1, rfl, rfl, h1, h2, h3⟩ := h.lst1_inv
      have ey := (Rep.int_inv hy).1
      subst ey
      unfold atI at ha
      cases hj : ixN xs.length i with
      | none => rw [hj] at ha; cases ha
      | some j =>
        rw [hj] at ha
        obtain ⟨b, ws, q1, q2, q3, q4, q5⟩ := Rs.child j (fun a ha => hz a (List.mem_cons_of_mem _ ha)) h2 ha
        have hne : a ≠ b := fun e => h3 (e ▸ q4)
        refine ⟨b, ws, .inl ⟨a, vs, i, rfl, h1, rfl, ?_⟩, q2, q3, List.mem_cons_of_mem _ q4, fun ws' ys' r => ?_⟩
        · unfold atI
          rw [h2.length, hj]
          exact q1
        · simp only [nstPut, hj]
          exact Rep.mk_lst1 (by rw [upd_ne hne]; exact h1) (q5 ws' ys' r) h3
    · cases e
  · rename_i kvs k
    split at e
    · rename_i k' hk
      split at e
      · rename_i ys' hl
        cases e
        obtain ⟨a, ps, G1, rfl, rfl, h1, ek, h2, h3⟩ := h.dK1_inv
        have ey := keyOf_rep hy hk
        subst ey
        obtain ⟨j, l1, l2, l3⟩ := look_ix hl
        obtain ⟨b, ws, q1, q2, q3, q4, q5⟩ := Rs.child j (fun a ha => hz a (List.mem_cons_of_mem _ ha)) h2 l1
        have hne : a ≠ b := fun e => h3 (e ▸ q4)
        refine ⟨b, ws, .inr ⟨a, ps, k', rfl, h1, rfl, (l3 ps ek).trans q1⟩, q2, q3, List.mem_cons_of_mem _ q4, fun ws' ys' r => ?_⟩
        simp only [nstPut, hk]
        refine Rep.mk_dK1 (by rw [upd_ne hne]; exact h1) (ek.trans (l2 _).2.symm) ?_ h3
        rw [(l2 _).1]
        exact q5 ws' ys' r
      · cases e
    · cases e
  · cases e
/-- a list within what is only read -/
theorem nst_frz {c : Cn} {x y : V} {d k : DL.D} {ys : List DL.D} (h : Rep c.K H Z 0 x d []) (hy : Rep c.K H Z 0 y k []) (e : nstAt d k = some ys) : ∃ b, NV H x y b ∧ Rep c.K H Z 0 (.ref b) (.lst ys) [] := by
  unfold nstAt at e
  split at e
  · rename_i xs i
    split at e
    · rename_i ys' ha
      cases e
      obtain ⟨a, vs, rfl, h1, _, h2⟩ := h.lst0_inv
      have ey := (Rep.int_inv hy).1
      subst ey
      obtain ⟨v, q1, q2⟩ := h2.atI0 ha
      obtain ⟨b, ws, rfl, _⟩ := q2.lst0_inv
      exact ⟨b, .inl ⟨a, vs, i, rfl, h1, rfl, q1⟩, q2⟩
    · cases e
  · rename_i kvs k
    split at e
    · rename_i k' hk
      split at e
      · rename_i ys' hl
        cases e
        obtain ⟨a, ps, rfl, h1, ek, h2⟩ := h.dK0_inv
        have ey := keyOf_rep hy hk
        subst ey
        obtain ⟨v, q1, q2⟩ := (look_val ek h2).1 _ hl
        obtain ⟨b, ws, rfl, _⟩ := q2.lst0_inv
        exact ⟨b, .inr ⟨a, ps, k', rfl, h1, rfl, q1⟩, q2⟩
      · cases e
    · cases e
  · cases e
end
section
variable {c : Cn} {H : Hp} {x y z : V} {Q : VK} {E : XK}
/-- what is lent is written within -/
theorem nst_ok {vs : List V} {Z : Zn} {F : Fs} {ss : List Sl} {d d' : DL.D} {b : Addr} {o : HO} (S : StOk c (am0 vs) H Z (vs.map some) (.p 1 d :: ss) F) (hb : b ∈ F 0) (ho : Mut (some o)) {x0 : V} (h0 : vs[0]? = some x0) (r : Rep c.K (upd H b o) Z 2 x0 d' (F 0)) (hs : ∀ (i : Nat) (s : Sl), ss[i]? = some s → ∃ d, s = Sl.v d) :
    StOk c (am0 vs) (upd H b o) Z (vs.map some) (.p 1 d' :: ss.map fun _ => Sl.no) F ∧ Ext H Z F (upd H b o) Z F := by
  have mu := S.muts hb
  refine ⟨⟨by have := S.len; simpa using this, fun i s e => ?_, fun i hi => S.out i (by simpa using hi), S.dis, S.zn, fun a ha q => ?_⟩, ⟨fun a u q k => ?_, fun a ha q => ?_, fun i a h => .inl ⟨i, h⟩, fun _ h => h, fun _ h => .inl h⟩⟩
  · cases i with
    | zero =>
      simp only [List.getElem?_cons_zero, Option.some.injEq] at e  -- so
      subst e
      refine ⟨x0, by rw [List.getElem?_map, h0]; rfl, h0, r⟩
    | succ i =>
      simp only [List.getElem?_cons_succ, List.getElem?_map, Option.map_eq_some_iff] at e
      obtain ⟨s', e1, rfl⟩ := e
      obtain ⟨dd, rfl⟩ := hs i s' e1
      exact (S.sl (i + 1) (.v dd) (by simpa using e1)).1
  · by_cases e : a = b
    · subst e; exact S.zn 0 a hb ha
    · rw [upd_ne e] at q; exact S.zh a ha q
  · rw [upd_ne fun e2 => ?_]; exact q
    subst e2
    rcases k with k | k
    · rw [q] at mu; exact k mu
    · exact k 0 hb
  · by_cases e : a = b
    · subst e; rw [upd_same] at q; cases q
    · rw [upd_ne e] at q; exact ha q
theorem nst_app (h : spC c nappC 3 [x, y, z] H Q E) : ∃ b ws, NV H x y b ∧ H b = some (.lst ws) ∧ ws.length < sizeLine ∧ Q .non (upd H b (.lst (ws ++ [z]))) := by
  obtain ⟨_, Z, ss, F, S, d, k, dx, ys, rfl, hn, hl, q⟩ := h
  obtain ⟨x0, hx, _, r0⟩ := S.sl 0 _ rfl
  obtain ⟨_, y0, hy, r1⟩ := S.sl 1 _ rfl
  obtain ⟨_, z0, hz, r2⟩ := S.sl 2 _ rfl
  cases hx
  cases hy
  cases hz
  obtain ⟨b, ws, n1, n2, n3, n4, n5⟩ := nst_own (S.zn 0) r0 r1 hn
  have hw := n3.length
  have kp : ∀ {vs : List V} {ds : List DL.D}, Rs c.K H Z 0 vs ds [] → Rs c.K (upd H b (.lst (ws ++ [z]))) Z 0 vs ds [] := fun r => mod_rs S n4 r (by simp)
  obtain ⟨S1, E1⟩ := nst_ok (o := .lst (ws ++ [z])) S n4 trivial rfl (n5 _ (ys ++ [dx]) ((kp n3).appendN (kp r2))) fun i s e => by
    match i, e with
    | 0, e => cases e; exact ⟨_, rfl⟩
    | 1, e => cases e; exact ⟨_, rfl⟩
  exact ⟨b, ws, n1, n2, by rw [hw]; exact hl, q _ _ Z F [] E1 S1 ⟨rfl, .non .nil⟩ Sep.nil GSub.nil⟩
theorem nst_pop (h : spC c npopC 2 [x, y] H Q E) : ∃ b ws v, NV H x y b ∧ H b = some (.lst ws) ∧ ws[ws.length - 1]? = some v ∧ Q v (upd H b (.lst ws.dropLast)) := by
  obtain ⟨_, Z, ss, F, S, d, k, ys, dy, rfl, hn, q⟩ := h
  obtain ⟨x0, hx, _, r0⟩ := S.sl 0 _ rfl
  obtain ⟨_, y0, hy, r1⟩ := S.sl 1 _ rfl
  cases hx
  cases hy
  obtain ⟨b, ws, n1, n2, n3, n4, n5⟩ := nst_own (S.zn 0) r0 r1 hn
  obtain ⟨w1, w2, A1, A2, rfl, eA, g1, g2, dj⟩ := Rs.splitA n3
  obtain ⟨rfl, rfl⟩ := List.append_eq_nil_iff.mp eA.symm
  obtain ⟨v, rfl⟩ : ∃ v, w2 = [v] := by
    have := g2.length
    match w2, this with
    | [y], _ => exact ⟨y, rfl⟩
  have kp : ∀ {vs : List V} {ds : List DL.D}, Rs c.K H Z 0 vs ds [] → Rs c.K (upd H b (.lst w1)) Z 0 vs ds [] := fun r => mod_rs S n4 r (by simp)
  obtain ⟨S1, E1⟩ := nst_ok (o := .lst w1) S n4 trivial rfl (n5 w1 ys (kp g1)) fun i s e => by
    match i, e with
    | 0, e => cases e; exact ⟨_, rfl⟩
  refine ⟨b, _, v, n1, n2, by simp, ?_⟩
  rw [List.dropLast_concat]
  exact q _ _ Z F [] E1 S1 ⟨rfl, kp g2⟩ Sep.nil GSub.nil
end

/-! ### the nodes -/
section
variable {X : Cx} {c : Cn} {m : Am} {T : Txt} {W : WX} {N : List Str} {sc scope : Scope} {fx : Str → Bool} {tb : Tb} {e a b d : Expr} {es : List Expr} {r ra rb : RE} {rs : List RE} {pos p p2 sp ap : Pos} {x : Str} {st : Stmt} {te : TE}
theorem pk_read {i : Nat} {σ : L2.St} {H : Hp} {Q : VK} (h : rdE c m T W (.pk i) σ H Q) : ∃ x, σ[i]? = some (some x) ∧ Q x H := by
  obtain ⟨env, Z, F, S, h⟩ := h
  simp only [wpE] at h
  obtain ⟨x, hx⟩ := okPk_val S h.1
  exact ⟨x, hx, h.2 x H Z F [] (Ext.refl ..) S ⟨rfl, hx⟩ Sep.nil GSub.nil⟩
theorem var_read {i : Nat} {σ : L2.St} {H : Hp} {Q : VK} (h : rdE c m T W (.var i) σ H Q) : ∃ x, σ[i]? = some (some x) ∧ Q x H := by
  obtain ⟨env, Z, F, S, h⟩ := h
  simp only [wpE] at h
  split at h
  · rename_i d e
    obtain ⟨_, x, h1, r⟩ := S.sl i _ e
    exact ⟨x, h1, lit_fin S h r⟩
  · rename_i n d e
    have S2 := S.frz e
    obtain ⟨x, h1, r⟩ := S.sl i _ e
    refine ⟨x, h1, h x H _ _ [] Ext.frz S2 ⟨rfl, ?_⟩ Sep.nil GSub.nil⟩
    exact r.freeze (fun _ h => .inl h) fun _ h => .inr h
  · exact h.elim
/-- what is computed so leaves all objects as they are -/
def Still (c : Cn) (m : Am) (T : Txt) (W : WX) (r : RE) (te : TE) : Prop := ∀ σ H (Q Q' : VK), rdE c m T W r σ H Q → (∀ z H', (∀ a o, H a = some o → H' a = some o) → Q z H' → Q' z H') → te σ H Q'
theorem st_pk {i : Nat} : Still c m T W (.pk i) (tVar i) := fun σ H Q Q' h k => by
  obtain ⟨x, h1, h2⟩ := pk_read h
  exact ⟨x, h1, k _ _ (fun _ _ e => e) h2⟩
theorem st_var {i : Nat} : Still c m T W (.var i) (tVar i) := fun σ H Q Q' h k => by
  obtain ⟨x, h1, h2⟩ := var_read h
  exact ⟨x, h1, k _ _ (fun _ _ e => e) h2⟩
theorem st_fdiv {i j : Nat} : Still c m T W (.prim .fdiv [.pk i, .pk j]) (tOp (rI CDivW fun i j => .int (i / j)) (tVar i) (tVar j)) := fun σ H Q Q' h k => by
  have h := two_read rfl h
  obtain ⟨x, h1, h2⟩ := pk_read (h : rdE c m T W (.pk i) σ H fun x H1 => rdE c m T W (.pk j) σ H1 fun y H2 => r2 c .fdiv x y H2 Q)
  obtain ⟨y, h3, Z, d, e, hx, hy, h4⟩ := pk_read h2
  refine ⟨x, h1, y, h3, ?_⟩
  simp only [pw] at h4; unfold p2I at h4; split at h4
  · have ex := hx.int; have ey := hy.int; subst ex ey
    exact ⟨_, _, rfl, rfl, h4.1, k _ _ (fun _ _ e => e) h4.2.int⟩
  · exact h4.elim
theorem st_tup2 {i j : Nat} : Still c m T W (.prim .tupD [.var i, .var j]) (tTup (tCons (tVar i) (tCons (tVar j) tNil))) := fun σ H Q Q' h k => by
  have h1 : tAll ([.var i, .var j].map (rdE c m T W)) σ H fun xs H1 => xs.length ≤ sizeLine ∧ ∀ p, H1 p = none → Q (.ref p) (upd H1 p (.tup xs)) :=
    disp_read (p := .tupD) rfl rfl (fun xs H1 ⟨Z, ds, r, h⟩ => by
      simp only [pw] at h
      exact ⟨by rw [r.length]; exact h.1, fun p hp => h.2.tup r hp⟩) h
  obtain ⟨x, e1, h2⟩ := var_read (h1 : rdE c m T W (.var i) σ H fun x H1 => rdE c m T W (.var j) σ H1 fun y H2 => _)
  obtain ⟨y, e2, h3⟩ := var_read h2
  exact ⟨x, e1, y, e2, h3.1, fun p hp => k _ _ (grow_upd hp) (h3.2 p hp)⟩
theorem pe_tup2 {i j k : Nat} {x y : Str} {p1 p2 : Pos} (B : CB X c N sc fx) (h1 : visC sc N i x = true) (h2 : visC sc N j y = true) (hs : starEach [.Name x p1, .Name y p2] X.env = (false, eval (.Name x p1) X.env) :: starEach [.Name y p2] X.env := by rfl) (hs2 : starEach [.Name y p2] X.env = (false, eval (.Name y p2) X.env) :: starEach [] X.env := by rfl) :
    PE X (.Tuple [.Name x p1, .Name y p2] k pos) (tTup (tCons (tVar i) (tCons (tVar j) tNil))) := by
  obtain ⟨v1, v2, v3, v4⟩ := B.vis h1
  obtain ⟨w1, w2, w3, w4⟩ := B.vis h2
  exact pe_tup (pa_cons (pe_var v1 v2 v3 v4) (pa_cons (pe_var w1 w2 w3 w4) pa_nil hs2) hs)
theorem pe_fdiv2 {i j : Nat} {x y : Str} {p1 p2 : Pos} (B : CB X c N sc fx) (h1 : visC sc N i x = true) (h2 : visC sc N j y = true) : PE X (.BinOp (.Name x p1) .FloorDiv (.Name y p2) pos) (tOp (rI CDivW fun i j => .int (i / j)) (tVar i) (tVar j)) := by
  obtain ⟨v1, v2, v3, v4⟩ := B.vis h1
  obtain ⟨w1, w2, w3, w4⟩ := B.vis h2
  exact pe_op op_fdivW (pe_var v1 v2 v3 v4) (pe_var w1 w2 w3 w4)
theorem pe_vr {i : Nat} {x : Str} (B : CB X c N sc fx) (h1 : visC sc N i x = true) : PE X (.Name x pos) (tVar i) := by
  obtain ⟨v1, v2, v3, v4⟩ := B.vis h1
  exact pe_var v1 v2 v3 v4
theorem has_read {i : Nat} {k : Nat} {σ : L2.St} {H : Hp} {Q : VK} (hT : T.ctr k = opC P_nhas m_nhas) (h : rdE c m T W (.call k [.pk i, rb]) σ H Q) : ∃ x, σ[i]? = some (some x) ∧ rdE c m T W rb σ H fun y H1 => ∃ b ws, NV H1 x y b ∧ H1 b = some (.lst ws) ∧ Q y H1 := by
  have h1 : tAll ([.pk i, rb].map (rdE c m T W)) σ H fun xs H1 => spC c (T.ctr k) (T.len k).length xs H1 Q (WE W σ) := call_read h
  obtain ⟨x, e1, h2⟩ := pk_read (h1 : rdE c m T W (.pk i) σ H fun x H1 => rdE c m T W rb σ H1 fun y H2 => spC c (T.ctr k) (T.len k).length [x, y] H2 Q (WE W σ))
  refine ⟨x, e1, rdE_mono h2 fun y H2 q => ?_⟩
  rw [hT] at q
  obtain ⟨Z, ds, hs, q⟩ := op_read q
  unfold P_nhas at q
  split at q
  · rename_i d k
    obtain ⟨x', y', e, hx, hy⟩ := rs2 hs
    cases e
    obtain ⟨ys, hn, q⟩ := q
    obtain ⟨b, nv, hr⟩ := nst_frz hx hy hn
    obtain ⟨b', ws, e, h3, _⟩ := hr.lst0_inv
    cases e
    exact ⟨b, ws, nv, h3, q.same hy⟩
  · exact q.elim
theorem s_napp {i j k : Nat} {po pc : Pos} (B : CB X c N sc fx) (hk : T.ctr k = opC P_nhas m_nhas) (hj : T.ctr j = nappC) (hl : T.len j = [true, false, false]) (hv : visC sc N i x = true) (hb : PE X b (rdE c m T W rb)) (he : PE X e te) (hst : Still c m T W r te)
    (hix : PlainIx b := by intro _ _; rfl) (hs : starEach [e] X.env = (false, eval e X.env) :: starEach [] X.env := by rfl)
    (hfew : ((backTo pc (starEach [e] X.env)).all (fun x => !x.1) && (backToKw pc (keywordEach [] X.env)).all (fun x => x.1.isSome)
      && decide (([e] : List Expr).length + ([] : List Keyword).length + (if ([] : List Keyword).isEmpty then 0 else 1) < 30)) = true := by rfl) (hline : (po.endLine == pc.line) = true := by rfl)
    (hbase : attributeBase (.Subscript (.Name x p) b sp) "append" X.env (eval (.Subscript (.Name x p) b sp) X.env) = eval (.Subscript (.Name x p) b sp) X.env := by rfl) :
    PS X (.Expr (.Call (.Attribute (.Subscript (.Name x p) b sp) "append" po) [e] [] pc) pos) (rdS c m T W (.exp (.call j [.pk i, .call k [.pk i, rb], r]))) := by
  refine (ps_expr (pe_bm PySem.F.plainAttrs_list PySem.F.slot_list_append PySem.F.type_list_append mt_append (pe_ix (ix_nv (by have := B.hu; omega)) (pe_vr B hv) hb hix) (pa_cons he pa_nil hs) hbase hfew hline hs rfl)).imp' fun D σ H h => ?_
  have h0 : rdE c m T W (.call j [.pk i, .call k [.pk i, rb], r]) σ H fun _ H1 => D.nx σ H1 := by
    obtain ⟨env, Z, F, S, h⟩ := h
    simp only [wpS] at h
    exact ⟨env, Z, F, S, wpE_mono _ env (wpE_lk _ env h) (fun s e1 h1 x H1 Z1 F1 G E1 S1 t sp gs => h1.2 σ H1 Z1 F1 E1 S1 (Pin.refl _ _)) fun x e h => KsD.exE h.2⟩
  have h1 : tAll ([.pk i, .call k [.pk i, rb], r].map (rdE c m T W)) σ H fun xs H1 => spC c (T.ctr j) (T.len j).length xs H1 (fun _ H1 => D.nx σ H1) (WE W σ) := call_read h0
  obtain ⟨x1, e1, h2⟩ := pk_read (h1 : rdE c m T W (.pk i) σ H fun x H1 => rdE c m T W (.call k [.pk i, rb]) σ H1 fun y H2 => rdE c m T W r σ H2 fun z H3 => spC c (T.ctr j) (T.len j).length [x, y, z] H3 (fun _ H1 => D.nx σ H1) (WE W σ))
  obtain ⟨x2, e2, h3⟩ := has_read hk h2
  rw [e1] at e2
  cases e2
  refine ⟨x1, e1, rdE_mono h3 fun y H2 ⟨b1, ws, nv, hw, h4⟩ => ⟨b1, nv, ?_⟩⟩
  refine ⟨.inl ⟨rfl, ws, .inl (.inl hw)⟩, hst σ H2 _ _ h4 fun z H3 g q => ?_⟩
  rw [hj, hl] at q
  obtain ⟨b2, ws2, nv2, hw2, hlen, q⟩ := nst_app q
  have := (nv.grow g).det nv2
  subst this
  exact ⟨b1, ws2, z, rfl, rfl, hw2, hlen, q⟩
theorem e_npop {j : Nat} (B : CB X c N sc fx) (hj : T.ctr j = npopC) (hl : T.len j = [true, false]) (ha : PE X a (rdE c m T W ra)) (hb : PE X b (rdE c m T W rb)) (hix : PlainIx b := by intro _ _; rfl) (hline : (ap.endLine == pos.line) = true := by rfl)
    (hbase : attributeBase (.Subscript a b sp) "pop" X.env (eval (.Subscript a b sp) X.env) = eval (.Subscript a b sp) X.env := by rfl) : PE X (.Call (.Attribute (.Subscript a b sp) "pop" ap) [] [] pos) (rdE c m T W (.call j [ra, rb])) := by
  refine (pe_bm0 PySem.F.plainAttrs_list PySem.F.slot_list_pop PySem.F.type_list_pop mt_pop (pe_ix (ix_nv (by have := B.hu; omega)) ha hb hix) hbase hline).imp' fun σ H Q h => ?_
  have h1 : rdE c m T W ra σ H fun x H1 => rdE c m T W rb σ H1 fun y H2 => spC c (T.ctr j) (T.len j).length [x, y] H2 Q (WE W σ) := call_read h
  refine rdE_mono h1 fun x H1 h2 => rdE_mono h2 fun y H2 q => ?_
  rw [hj, hl] at q
  obtain ⟨b, ws, v, n1, n2, n3, q⟩ := nst_pop q
  exact ⟨b, n1, .inl ⟨rfl, ws, .inl (.inl n2)⟩, b, ws, v, rfl, rfl, n2, n3, q⟩
theorem eqv_nil {ys : List DL.D} : PyData.eqv (py (.lst ys)) (py (.lst [])) = ys.isEmpty := by
  cases ys <;> simp [py, pys, PyData.eqv, PyData.eqvAll]
theorem t_nne {j : Nat} {lp : Pos} (B : CB X c N sc fx) (hj : T.ctr j = opC P_nne m_nne) (ha : PE X a (rdE c m T W ra)) (hb : PE X b (rdE c m T W rb)) (hix : PlainIx b := by intro _ _; rfl) : PT X (.Compare (.Subscript a b sp) [.NotEq] [.List [] lp] pos) (rdT c m T W (.call j [ra, rb])) := by
  refine (pt_cmpR (op_neD (by have := B.hu; omega)) (pe_ix (ix_nv (by have := B.hu; omega)) ha hb hix) (pe_lst pa_nil) (by rfl)).imp' fun σ H Q h => ?_
  have h0 : rdE c m T W (.call j [ra, rb]) σ H fun x H' => ∃ k, TruV c.K x H' k ∧ Q k H' := by
    obtain ⟨env, Z, F, S, h⟩ := h
    exact ⟨env, Z, F, S, wpE_mono _ env h (fun s e1 q x H1 Z1 F1 G E1 S1 t sp gs => tst_fin E1 S1 t q fun b hb => hb H1 Z1 F1 E1 S1) fun _ _ h => h⟩
  have h1 : rdE c m T W ra σ H fun x H1 => rdE c m T W rb σ H1 fun y H2 => spC c (T.ctr j) (T.len j).length [x, y] H2 (fun x H' => ∃ k, TruV c.K x H' k ∧ Q k H') (WE W σ) := call_read h0
  refine rdE_mono h1 fun x H1 h2 => rdE_mono h2 fun y H2 q => ?_
  rw [hj] at q
  obtain ⟨Z, ds, hs, q⟩ := op_read q
  unfold P_nne at q
  split at q
  · rename_i d k
    obtain ⟨x', y', e, hx, hy⟩ := rs2 hs
    cases e
    obtain ⟨ys, hn, he, q⟩ := q
    obtain ⟨b, nv, hr⟩ := nst_frz hx hy hn
    unfold eqOk at he
    simp only [Bool.false_or, Bool.and_eq_true] at he
    refine ⟨b, nv, Nat.zero_le _, fun p hp => ⟨py (.lst ys), py (.lst []), B.hK ▸ Rep.dp (Rs.grow hr (grow_upd hp)) he.1.1.1, ?_, he.1.2, he.2, ?_⟩⟩
    · exact Rep.dp (K := X.K) (Z := fun _ => True) (n := 1) (F := [p]) (Rep.mk_lst1 upd_same .nil (by simp)) he.1.1.2
    · rw [eqv_nil]
      obtain ⟨k, hk, q⟩ := q (.bl _) (upd H2 p (.lst [])) [] (grow_upd hp) ⟨rfl, .bl _ .nil⟩ fun _ h => by cases h
      cases hk
      exact ⟨_, rfl, q⟩
  · exact q.elim
end
end DL
end
section
set_option Elab.async false
set_option linter.all false
set_option maxRecDepth 100000
set_option maxHeartbeats 3900000
/-! DL39: {k: v}, list(range(n)), tuple(range(n)). -/
namespace DL
open PySem PySem.Spec L2 PyProof.Rows
section
variable {X : Cx} {c : Cn} {m : Am} {T : Txt} {W : WX} {N : List Str} {sc scope : Scope} {fx : Str → Bool} {tb : Tb} {e a b d : Expr} {es : List Expr} {r ra rb : RE} {rs : List RE} {pos p p2 sp ap : Pos} {x : Str} {st : Stmt} {te : TE}
  {σ σ' : L2.St} {H H' : Hp} {Z Z' : Zn} {F F' : Fs} {env env' : Env'}
theorem arg_val {x : V} {G : List Addr} {s : Sl} {d : DL.D} (S : StOk c m H Z σ env F) (t : TOk c H Z σ x G s) (h : argS env false s = some (.v d)) (cl : borrows env [false] [s] = true → DL.imm d = true) : Rep c.K H (zadd Z G) 0 x d [] := by
  have up : ∀ {n : Nat} {y : V} {d : DL.D} {G' : List Addr}, Rep c.K H Z n y d G' → Rep c.K H (zadd Z G) n y d G' := fun r => Rs.keep r (fun _ _ e _ => e) fun _ h => .inl h
  cases s with
  | v d' => cases h; exact up t.2
  | o n d' => cases h; exact Rs.freeze t (fun _ h => .inl h) fun _ h => .inr h
  | q i =>
    obtain ⟨_, hx⟩ := t
    simp only [argS] at h
    split at h
    · rename_i d' e
      cases h
      obtain ⟨_, y, h1, r⟩ := S.sl i _ e
      rw [hx] at h1; cases h1
      exact up r
    · rename_i n d' e
      cases h
      obtain ⟨y, h1, r⟩ := S.sl i _ e
      rw [hx] at h1; cases h1
      exact (Rep.imm r (cl (by simp [borrows, e]))).2 0 _
    · rename_i n d' e
      cases h
      obtain ⟨y, h1, _, r⟩ := S.sl i _ e
      rw [hx] at h1; cases h1
      exact (Rep.imm r (cl (by simp [borrows, e]))).2 0 _
    · rename_i b n d' e
      cases h
      obtain ⟨y, h1, _, r⟩ := S.sl i _ e
      rw [hx] at h1; cases h1
      exact (Rep.imm r (cl (by simp [borrows, e]))).2 0 _
    · cases h
  | _ => cases h
theorem e_dK1 {j : Nat} (hj : T.ctr j = opC P_dK1 m_dK1) (hl : T.len j = [false, false]) (ha : PE X a (rdE c m T W ra)) (hb : PE X b (rdE c m T W rb)) : PE X (.Dict [some a] [b] pos) (rdE c m T W (.call j [ra, rb])) := by
  refine (pe_disp (pps_cons ha hb pps_nil) rfl rfl (by simp) (by simp)).imp' fun σ H Q ⟨env, Z, F, S, q⟩ => ?_
  simp only [wpE] at q
  intro A hA
  have g1 := grow_upd (o := .dK []) hA
  have S0 : StOk c m (upd H A (.dK [])) Z σ env F := S.grow g1
  have E0 : Ext H Z F (upd H A (.dK [])) Z F := Ext.grow g1
  have nZ : ¬ Z A := fun hz => S.zh A hz hA
  have nF : ∀ i, A ∉ F i := fun i hi => S.there hi hA
  let QQ : List (V × V) → Hp → Prop := fun ps H2 => H2 A = some (.dK []) ∧ ∃ kvs : List (Key × V), ps = kvs.map (fun kv => (kV kv.1, kv.2)) ∧ kvs.length ≤ 15 ∧ Q (.ref A) (upd H2 A (.dK (mergeK [] kvs)))
  show rdE c m T W ra σ (upd H A (.dK [])) fun x H1 => rdE c m T W rb σ H1 fun y H2 => QQ [(x, y)] H2
  have key : tAll ([ra, rb].map (rdE c m T W)) σ (upd H A (.dK [])) fun xs H1 => ∀ x y, xs = [x, y] → QQ [(x, y)] H1 := by
    refine args_read [ra, rb] S0 (wpEs_mono _ env q (fun ss e1 h1 xs H1 Z1 F1 G E1 S1 t sp gs => ?_) fun _ _ h => h.from E0)
    rintro x y rfl
    unfold callQ at h1
    rw [hl, hj] at h1
    split at h1
    · exact h1.elim
    · rename_i as has
      obtain ⟨_, _, ds, rfl, h1⟩ := h1
      unfold P_dK1 at h1
      split at h1
      · rename_i dk dv
        obtain ⟨k, hk, _, hcl, h1⟩ := h1
        match ss, t, has, hcl, h1 with
        | [s1, s2], t, has, hcl, h1 =>
          cases t with
          | @cons _ _ A1 _ _ A2' t1 t2 dj =>
          cases t2 with
          | @cons _ _ A2 _ _ A3 t2 t3 dj2 =>
          cases t3
          have hargs : argS e1 false s1 = some (.v dk) ∧ argS e1 false s2 = some (.v dv) := by
            simp only [argsS] at has
            split at has
            · rename_i u1 u2 g1 g2
              split at g2
              · rename_i u3 u4 g3 g4
                cases g4
                cases g2
                simp only [List.map_cons, List.map_nil, Option.some.injEq, List.cons.injEq, and_true] at has
                obtain ⟨rfl, rfl⟩ := has
                exact ⟨g1, g3⟩
              · cases g2
            · cases has
          have bq : borrows e1 [false, false] [s1, s2] = (borrows e1 [false] [s1] || borrows e1 [false] [s2]) := by cases s1 <;> simp [borrows]
          have imv : borrows e1 [false] [s2] = true → DL.imm dv = true := fun hb => by
            have := (hcl (by rw [bq, hb, Bool.or_true])).1
            simpa [Sl.clean, cleanN, cleanN.cleans] using this
          have imk : DL.imm dk = true := by cases dk <;> first | rfl | cases hk
          have rk := arg_val S1 t1 hargs.1 fun _ => imk
          have rv := arg_val S1 t2 hargs.2 imv
          have S2 : StOk c m H1 (zadd Z1 (A1 ++ (A2 ++ []))) σ e1 F1 := S1.zone sp.f (fun b hb => (Tmps.there (.cons t1 (.cons t2 .nil dj2) dj)) b hb)
          have E2 : Ext H Z F H1 (zadd Z1 (A1 ++ (A2 ++ []))) F1 := Ext.zone (gs.back E0) (E0.trans E1)
          have at1 : H1 A = some (.dK []) := E1.keep A _ upd_same (.inr nF)
          have nG : A ∉ A1 ++ (A2 ++ []) := fun hg => by
            rcases gs A hg with ⟨j, h⟩ | h
            · exact nF j h
            · rw [upd_same] at h; cases h
          have nZ2 : ¬ zadd Z1 (A1 ++ (A2 ++ [])) A := fun hz => by
            rcases hz with hz | hz
            · rcases E1.znew A hz with h | ⟨j, h⟩ | h
              · exact nZ h
              · exact nF j h
              · rw [upd_same] at h; cases h
            · exact nG hz
          have nF1 : ∀ i, A ∉ F1 i := fun i hi => by
            rcases E1.fsub i A hi with ⟨j, h⟩ | h
            · exact nF j h
            · rw [upd_same] at h; cases h
          have wide : ∀ {n : Nat} {y : V} {d : DL.D} {A' : List Addr}, (∀ b ∈ A', b ∈ A1 ++ (A2 ++ [])) → Rep c.K H1 (zadd Z1 A') n y d [] → Rep c.K H1 (zadd Z1 (A1 ++ (A2 ++ []))) n y d [] := fun hs r => r.keep (fun _ _ e _ => e) fun b h => h.imp id (hs b)
          have rk := keyOf_rep (wide (fun b hb => List.mem_append_left _ hb) rk) hk
          have rv := wide (fun b hb => List.mem_append_right _ (List.mem_append_left _ hb)) rv
          subst rk
          refine ⟨at1, [(k, y)], rfl, by simp, ?_⟩
          rw [show mergeK [] [(k, y)] = [(k, y)] from rfl]
          have S3 : StOk c m (upd H1 A (.dK [(k, y)])) _ σ e1 F1 := updM_ok S2 at1 trivial nZ2 nF1
          have E3 : Ext H Z F (upd H1 A (.dK [(k, y)])) _ F1 := updD_ext E2 hA
          have r3 : Rep c.K (upd H1 A (.dK [(k, y)])) (zadd Z1 (A1 ++ (A2 ++ []))) 1 (.ref A) (.dK [(k, dv)]) [A] :=
            Rep.mk_dK1 upd_same rfl (updM_rs rv at1 trivial nZ2 (by simp)) (by simp)
          refine h1 (.ref A) _ _ F1 [A] E3 S3 r3 ⟨fun a ha => ?_, fun a ha i => ?_⟩ fun a ha => ?_
          · rw [List.mem_singleton.mp ha]; exact nZ2
          · rw [List.mem_singleton.mp ha]; exact nF1 i
          · rw [List.mem_singleton.mp ha]; exact .inr hA
      · exact h1.elim
  have key : rdE c m T W ra σ (upd H A (.dK [])) fun x H1 => rdE c m T W rb σ H1 fun y H2 => ∀ x' y', [x, y] = [x', y'] → QQ [(x', y')] H2 := key
  exact rdE_mono key fun x H1 h2 => rdE_mono h2 fun y H2 q => q x y rfl
theorem rg_rng {a b : Int} {H : Hp} {Z : Zn} : Rs c.K H Z 0 (rgV a b) (rngD a b) [] := by
  have e1 : rgV a b = ((List.range (b - a).toNat).map fun i : Nat => a + (i : Int)).map V.int := by simp [rgV]
  have e2 : rngD a b = ((List.range (b - a).toNat).map fun i : Nat => a + (i : Int)).map DL.D.int := by simp [rngD]
  rw [e1, e2]
  exact Rs.of_ints _
theorem e_lrng {j : Nat} {q : Pos} (B : CB X c N sc fx) (hc : X.calm = true) (hj : T.ctr j = opC P_lrng m_lrng) (hg : glC sc "list" = true) (hg2 : glC sc "range" = true) (ha : PE X a (rdE c m T W ra)) (na : starEach [a] X.env = (false, eval a X.env) :: starEach [] X.env := by rfl)
    (nb : starEach [.Call (.Name "range" q) [a] [] p2] X.env = (false, eval (.Call (.Name "range" q) [a] [] p2) X.env) :: starEach [] X.env := by rfl) : PE X (.Call (.Name "list" p) [.Call (.Name "range" q) [a] [] p2] [] pos) (rdE c m T W (.call j [ra])) := by
  refine (pe_listRg hc (B.gl hg).1 (B.bl _ (by simp)) (prg_1 (B.gl hg2).1 (B.bl _ (by simp)) ha na) nb).imp' fun σ H Q h => ?_
  have h1 : rdE c m T W ra σ H fun x H1 => spC c (T.ctr j) (T.len j).length [x] H1 Q (WE W σ) := call_read h
  refine rdE_mono h1 fun x H1 q => ?_
  rw [hj] at q
  obtain ⟨Z, ds, hs, q2⟩ := op_read q
  unfold P_lrng at q2
  split at q2
  · rename_i n
    obtain ⟨x', e, hx⟩ := rs1 hs
    cases e
    have ex := (Rep.int_inv hx).1
    subst ex
    exact ⟨n, rfl, ⟨by decide, by decide, q2.1, by have := q2.2.1; omega, by have := q2.2.1; omega⟩, fun a ha => q2.2.2.lst rg_rng ha⟩
  · exact q2.elim
end
end DL
end
section
set_option Elab.async false
set_option linter.all false
set_option maxRecDepth 100000
set_option maxHeartbeats 3900000
/-! DL40: the numbers of the operations that are told as calls; more of wp, unfolded. -/
namespace DL
open PySem PySem.Spec L2
structure Ops (T : Txt) : Prop where
  sum : At T 1000 (opC P_sum m_sum) [false]
  min : At T 1001 (opC P_min m_min) [false]
  max : At T 1002 (opC P_max m_max) [false]
  mulT : At T 1003 (opC P_mulT m_mulT) [false, false]
  dK1 : At T 1004 (opC P_dK1 m_dK1) [false, false]
  lrng : At T 1005 (opC P_lrng m_lrng) [false]
  dead : At T 1006 (opC P_dead m_dead) []
  nne : At T 1007 (opC P_nne m_nne) [false, false]
  nhas : At T 1008 (opC P_nhas m_nhas) [false, false]
  napp : At T 1009 nappC [true, false, false]
  npop : At T 1010 npopC [true, false]
/-- their numbers' promises -/
def opsCtr (f : Nat → Ctr) : Nat → Ctr
  | 1000 => opC P_sum m_sum
  | 1001 => opC P_min m_min
  | 1002 => opC P_max m_max
  | 1003 => opC P_mulT m_mulT
  | 1004 => opC P_dK1 m_dK1
  | 1005 => opC P_lrng m_lrng
  | 1006 => opC P_dead m_dead
  | 1007 => opC P_nne m_nne
  | 1008 => opC P_nhas m_nhas
  | 1009 => nappC
  | 1010 => npopC
  | n => f n
def opsLen (f : Nat → List Bool) : Nat → List Bool
  | 1000 => [false]
  | 1001 => [false]
  | 1002 => [false]
  | 1003 => [false, false]
  | 1004 => [false, false]
  | 1005 => [false]
  | 1006 => []
  | 1007 => [false, false]
  | 1008 => [false, false]
  | 1009 => [true, false, false]
  | 1010 => [true, false]
  | n => f n
theorem ops_mk {T : Txt} {f : Nat → Ctr} {g : Nat → List Bool} (h1 : T.ctr = opsCtr f) (h2 : T.len = opsLen g) : Ops T := by
  constructor <;> exact ⟨by rw [h1]; rfl, by rw [h2]; rfl⟩
section
variable {T : Txt} {env : Env'} {Q : QE} {X : QX} {P : D → Prop} {S : Sl → Prop} {x y : D}
theorem w_pop {i : Nat} : wpE T (.pop i) env Q X = match env[i]? with
    | some (.o n (.lst xs)) => wpE.popQ n xs fun s ys => Q s (env.set i (.o n (.lst ys)))
    | some (.p n (.lst xs)) => wpE.popQ n xs fun s ys => Q s (env.set i (.p n (.lst ys)))
    | _ => False := by first | (simp only [wpE]; done) | (simp only [wpE]; rfl)
theorem pop_app {xs : List D} {d : D} {K : Sl → List D → Prop} : wpE.popQ 0 (xs ++ [d]) K = K (.v d) xs := by
  unfold wpE.popQ
  rw [List.getLast?_concat]
  simp
theorem r_srcE {d : D} {Q : List D → Prop} : srcD .enum [d] Q = match seqOf d with | some xs => Q (enumD xs) | none => False := rfl
theorem r_srcZ {d e : D} {Q : List D → Prop} : srcD .zip [d, e] Q = match seqOf d, seqOf e with | some xs, some ys => Q (List.zipWith (fun x y => .tup [x, y]) xs ys) | _, _ => False := rfl
theorem r_in : pw .in_ [x, y] P = match y with
  | .lst ys => (plain x = true ∧ plains ys = true ∧ SeqAt.shaped (py x) = true ∧ SeqAt.shaped (.list (pys ys)) = true ∧ P (.bl ((pys ys).any fun z => PyData.eqv z (py x))))
  | .tup ys => (pIn.flatD x = true ∧ ys.all pIn.flatD = true ∧ P (.bl ((pys ys).any fun z => PyData.eqv z (py x))))
  | .dK kvs => ∃ k, keyOf x = some k ∧ hold (fun k => P (.bl (look kvs k).isSome)) ⟨⟩ k
  | .dT kvs => match x with | .tup xs => ∃ k, keysOf xs = some k ∧ hold (fun k => P (.bl (look kvs k).isSome)) ⟨⟩ k | _ => False
  | _ => False := by cases y <;> first | rfl | (cases x <;> rfl)
theorem r_nin : pw .nin [x, y] P = match y with
  | .lst ys => (plain x = true ∧ plains ys = true ∧ SeqAt.shaped (py x) = true ∧ SeqAt.shaped (.list (pys ys)) = true ∧ P (.bl (!(pys ys).any fun z => PyData.eqv z (py x))))
  | .tup ys => (pIn.flatD x = true ∧ ys.all pIn.flatD = true ∧ P (.bl (!(pys ys).any fun z => PyData.eqv z (py x))))
  | .dK kvs => ∃ k, keyOf x = some k ∧ hold (fun k => P (.bl (!(look kvs k).isSome))) ⟨⟩ k
  | .dT kvs => match x with | .tup xs => ∃ k, keysOf xs = some k ∧ hold (fun k => P (.bl (!(look kvs k).isSome))) ⟨⟩ k | _ => False
  | _ => False := by cases y <;> first | rfl | (cases x <;> rfl)
theorem r_sl11 {z : D} : pw (.slc true true) [x, y, z] P = match y, z with | .int i, .int j => pSl (some i) (some j) x P | _, _ => False := by cases y <;> cases z <;> rfl
theorem keyI_hold {i : Int} {f : Key → Prop} {h : Hd f} : (∃ k, keyOf (.int i) = some k ∧ hold f h k) = f (.inl i) := propext ⟨fun ⟨_, h, p⟩ => Option.some.inj h ▸ p, fun p => ⟨_, rfl, p⟩⟩
theorem keyS_hold {i : Str} {f : Key → Prop} {h : Hd f} : (∃ k, keyOf (.str i) = some k ∧ hold f h k) = f (.inr i) := propext ⟨fun ⟨_, h, p⟩ => Option.some.inj h ▸ p, fun p => ⟨_, rfl, p⟩⟩
/-! ### calls of operations -/
theorem r_op1 {P : List D → (Sl → Prop) → Prop} {hm : ∀ ds (Q Q' : Sl → Prop), P ds Q → (∀ s, Q s → Q' s) → P ds Q'} {d : D} {Q : Sl → List Sl → Prop} {E : Ex → List Sl → Prop} : (opC P hm).run [.v d] Q E = P [d] fun s => Q s [.no] := by
  apply propext
  constructor
  · rintro ⟨ds, h, q⟩
    match ds, h with
    | [e], h => cases h; exact q
  · exact fun q => ⟨[d], rfl, q⟩
theorem r_op2 {P : List D → (Sl → Prop) → Prop} {hm : ∀ ds (Q Q' : Sl → Prop), P ds Q → (∀ s, Q s → Q' s) → P ds Q'} {d e : D} {Q : Sl → List Sl → Prop} {E : Ex → List Sl → Prop} : (opC P hm).run [.v d, .v e] Q E = P [d, e] fun s => Q s [.no, .no] := by
  apply propext
  constructor
  · rintro ⟨ds, h, q⟩
    match ds, h with
    | [e, f], h => cases h; exact q
  · exact fun q => ⟨[d, e], rfl, q⟩
theorem sum_l {ns : List Int} : P_sum [.lst (ns.map D.int)] S = S (.v (.int ns.sum)) := by
  apply propext
  constructor
  · rintro ⟨ms, h | h, q⟩
    · cases int_inj (D.lst.inj h); exact q
    · cases h
  · exact fun q => ⟨ns, .inl rfl, q⟩
theorem sum_t {ns : List Int} : P_sum [.tup (ns.map D.int)] S = S (.v (.int ns.sum)) := by
  apply propext
  constructor
  · rintro ⟨ms, h | h, q⟩
    · cases h
    · cases int_inj (D.tup.inj h); exact q
  · exact fun q => ⟨ns, .inr rfl, q⟩
theorem r_mulT {xs : List D} {k : Int} : P_mulT [.tup xs, .int k] S = (xs ≠ [] ∧ k ≤ 1000 ∧ -1000 ≤ k ∧ xs.length ≤ 1000 ∧ S (.v (.tup (List.replicate k.toNat xs).flatten))) := rfl
theorem r_dK1 {i : Int} {v : D} : P_dK1 [.int i, v] S = S (.o 0 (.dK [(.inl i, v)])) := propext ⟨fun ⟨_, h, p⟩ => Option.some.inj h ▸ p, fun p => ⟨_, rfl, p⟩⟩
theorem r_lrng {j : Int} : P_lrng [.int j] S = (-(2 ^ 62) ≤ j ∧ j ≤ 2 ^ 24 ∧ S (.o 0 (.lst (rngD 0 j)))) := rfl
theorem r_nne {d k : D} : P_nne [d, k] S = ∃ ys, nstAt d k = some ys ∧ hold (fun ys => eqOk (.lst ys) (.lst []) = true ∧ S (.v (.bl (!ys.isEmpty)))) ⟨⟩ ys := rfl
theorem r_nhas {d k : D} : P_nhas [d, k] S = ∃ ys, nstAt d k = some ys ∧ hold (fun _ => S (.v k)) ⟨⟩ ys := rfl
theorem r_napp {d k x : D} {Q : Sl → List Sl → Prop} {E : Ex → List Sl → Prop} : nappC.run [.p 1 d, .v k, .v x] Q E = ∃ ys, nstAt d k = some ys ∧ hold (fun ys => ys.length < sizeLine ∧ Q (.v .non) [.p 1 (nstPut d k (ys ++ [x])), .no, .no]) ⟨⟩ ys := by
  apply propext
  constructor
  · rintro ⟨_, _, _, ys, h, h1, h2, q⟩
    cases h
    exact ⟨ys, h1, h2, q⟩
  · exact fun ⟨ys, h1, h2, q⟩ => ⟨_, _, _, ys, rfl, h1, h2, q⟩
end
/-- ints that are walked with their places -/
theorem enum_get {xs : List D} {i : Nat} {d : D} (h : (enumD xs)[i]? = some d) : ∃ x, xs[i]? = some x ∧ d = .tup [.int (i : Nat), x] := by
  unfold enumD at h
  rw [List.getElem?_mapIdx] at h
  obtain ⟨x, h1, rfl⟩ := Option.map_eq_some_iff.mp h
  exact ⟨x, h1, rfl⟩
theorem enum_len {xs : List D} : (enumD xs).length = xs.length := by simp [enumD]
theorem zip_get {f : D → D → D} {xs ys : List D} {i : Nat} {d : D} (h : (List.zipWith f xs ys)[i]? = some d) : ∃ x y, xs[i]? = some x ∧ ys[i]? = some y ∧ d = f x y := by
  rw [List.getElem?_zipWith] at h
  cases e1 : xs[i]? with
  | none => rw [e1] at h; cases h
  | some x =>
    cases e2 : ys[i]? with
    | none => rw [e1, e2] at h; cases h
    | some y => rw [e1, e2] at h; cases h; exact ⟨x, y, rfl, rfl, rfl⟩
end DL
end
section
set_option Elab.async false
set_option linter.all false
set_option maxRecDepth 100000
set_option maxHeartbeats 3900000
/-! DL41: several names at once, one of them used within a comprehension. -/
namespace DL
open PySem PySem.Spec L2
section
variable {X : Cx} {c : Cn} {m : Am} {T : Txt} {W : WX} {N : List Str} {sc : Scope} {fx : Str → Bool} {tb : Tb} {a b d : Expr} {ra rb rc : RE} {rs : List RE} {pos : Pos} {x y z : Str} {D : Ends} {σ : L2.St} {H : Hp}
theorem par_readG {is : List Nat} (h : rdS c m T W (.par is rs) D σ H) : tAll (rs.map (rdE c m T W)) σ H fun xs H1 => ∀ H2, (∀ a o, H1 a = some o → H2 a = some o) → D.nx ((is.zip xs).foldl (fun τ p => τ.set p.1 (some p.2)) σ) H2 := by
  obtain ⟨env, Z, F, S, h⟩ := h
  simp only [wpS] at h
  refine args_read rs S (wpEs_mono rs env (wpEs_lk rs env h) (fun ss e1 h1 xs H1 Z1 F1 G E1 S1 t sp gs H2 gr => ?_) fun _ _ h => KsD.exE h.2)
  have h2 := h1.2
  split at h2
  · rename_i e2 hq
    obtain ⟨F', S', P', sub⟩ := setAll_ok S1 t sp hq
    have E' : Ext H Z F H1 Z1 F' := ⟨E1.keep, E1.dom, fun i a ha => by
      rcases sub i a ha with k | k
      · exact E1.fsub i a k
      · exact gs a k, E1.zsub, E1.znew⟩
    exact h2 _ H2 Z1 F' (E'.trans (Ext.grow gr)) (S'.grow gr) ((Pin.refl env σ).trans h1.1 P')
  · exact h2.elim
/-- the name is used within a comprehension -/
def cellC (sc : Scope) (x : Str) : Bool := decide (sc.names.lookup x = some .cell)
theorem not_loc (B : CB X c N sc fx) (h : cellC sc x = true) : (X.env.kindOf x == some .local) = false := by
  have : X.env.kindOf x = some .cell := by
    show X.env.scope.names.lookup x = _
    rw [B.hs]
    exact of_decide_eq_true h
  rw [this]; rfl
theorem fm_le {α β : Type} (f : α → Option β) : ∀ l : List α, (l.filterMap f).length ≤ l.length := fun l => List.length_filterMap_le f l
theorem sw2c {px py pt : Pos} {kt k2 pt2} (B : CB X c N sc fx) (h : (cellC sc x || cellC sc y) = true) : swappedStores [.Tuple [.Name x px, .Name y py] kt pt] (.Tuple [a, b] k2 pt2) X.env = pure none := by
  have key : ([Expr.Name x px, Expr.Name y py].filterMap fun | .Name id pos => (if (X.env.kindOf id == some .local && pos.line == px.line) = true then some id else none) | _ => none).length ≠ 2 := by
    rcases Bool.or_eq_true_iff.mp h with h | h  -- so
    · have e := not_loc B h
      have := fm_le (fun | Expr.Name id pos => (if (X.env.kindOf id == some .local && pos.line == px.line) = true then some id else none) | _ => none) [Expr.Name y py]
      simp only [List.filterMap_cons, e, Bool.false_and, Bool.false_eq_true, if_false, List.length_singleton] at this ⊢
      omega
    · have e := not_loc B h
      simp only [List.filterMap_cons, List.filterMap_nil, e, Bool.false_and, Bool.false_eq_true, if_false]
      split <;> simp
  unfold swappedStores
  dsimp only
  split
  · rfl
  · split
    · rfl
    · exact if_pos (Bool.or_eq_true_iff.mpr (.inl (bne_iff_ne.mpr key)))
theorem sw3c {px py pz pt : Pos} {kt k2 pt2} (B : CB X c N sc fx) (h : (cellC sc x || (cellC sc y || cellC sc z)) = true) : swappedStores [.Tuple [.Name x px, .Name y py, .Name z pz] kt pt] (.Tuple [a, b, d] k2 pt2) X.env = pure none := by
  have key : ([Expr.Name x px, Expr.Name y py, Expr.Name z pz].filterMap fun | .Name id pos => (if (X.env.kindOf id == some .local && pos.line == px.line) = true then some id else none) | _ => none).length ≠ 3 := by
    rcases Bool.or_eq_true_iff.mp h with h | h  -- so
    · have e := not_loc B h
      have := fm_le (fun | Expr.Name id pos => (if (X.env.kindOf id == some .local && pos.line == px.line) = true then some id else none) | _ => none) [Expr.Name y py, Expr.Name z pz]
      rw [List.filterMap_cons]
      simp only [e, Bool.false_and, Bool.false_eq_true, if_false]
      simp only [List.length_cons, List.length_nil] at this
      omega
    · rcases Bool.or_eq_true_iff.mp h with h | h
      · have e := not_loc B h
        simp only [List.filterMap_cons, List.filterMap_nil, e, Bool.false_and, Bool.false_eq_true, if_false]
        repeat' split
        all_goals simp
      · have e := not_loc B h
        simp only [List.filterMap_cons, List.filterMap_nil, e, Bool.false_and, Bool.false_eq_true, if_false]
        repeat' split
        all_goals simp
  unfold swappedStores
  dsimp only
  split
  · rfl
  · split
    · rfl
    · exact if_pos (Bool.or_eq_true_iff.mpr (.inl (bne_iff_ne.mpr key)))
theorem s_par2c {i j : Nat} {px py pt : Pos} {kt k2 pt2} (B : BX X c T W N sc fx tb) (h1 : locC sc fx N i x = true) (h2 : locC sc fx N j y = true) (ha : PA X [a, b] (tAll ([ra, rb].map (rdE c m T W))))
    (hw : (cellC sc x || cellC sc y) = true) (hs : swapsWithSole [.Tuple [.Name x px, .Name y py] kt pt] (.Tuple [a, b] k2 pt2) pos.line X.env = pure false := by rfl)
    (ho : (assignEach [.Tuple [.Name x px, .Name y py] kt pt] X.env).map (·.2) = [assign (.Tuple [.Name x px, .Name y py] kt pt) X.env] := by rfl)
    (hn : (assignEach [.Name x px, .Name y py] X.env).length = 2 := by rfl) (hst : (assignEach [.Name x px, .Name y py] X.env).findIdx? (·.1) = none := by rfl) :
    PS X (.Assign [.Tuple [.Name x px, .Name y py] kt pt] (.Tuple [a, b] k2 pt2) pos) (rdS c m T W (.par [i, j] [ra, rb])) := by
  obtain ⟨u1, u2, u3⟩ := B.cb.loc h1
  obtain ⟨w1, w2, w3⟩ := B.cb.loc h2
  refine (ps_asg (pe_tup ha) (pg_tup B.calm (pgs_cons (pg_name B.cb.ND u1 u2 u3) (pgs_cons (pg_name B.cb.ND w1 w2 w3) pgs_nil)) hn hst) hs (sw2c B.cb hw) ho).imp' fun D σ H h => ?_
  have q1 : rdE c m T W ra σ H fun u H1 => rdE c m T W rb σ H1 fun v H2 => ∀ H3, (∀ a o, H2 a = some o → H3 a = some o) → D.nx (([i, j].zip [u, v]).foldl (fun τ p => τ.set p.1 (some p.2)) σ) H3 := par_readG h
  show rdE c m T W ra σ H fun u H1 => rdE c m T W rb σ H1 fun v H2 => [u, v].length ≤ sizeLine ∧ ∀ p, H2 p = none → gTup X.K 2 (gCons (gName i) (gCons (gName j) gNil)) (.ref p) σ (upd H2 p (.tup [u, v])) fun σ' H' => D.nx σ' H'
  exact rdE_mono q1 fun u H1 q2 => rdE_mono q2 fun v H2 q3 => ⟨by show 2 ≤ sizeLine; decide, fun p hp => ⟨p, [u, v], rfl, SqT.of upd_same, rfl, u, [v], rfl, v, [], rfl, rfl, q3 _ (grow_upd hp)⟩⟩
theorem s_par3c {i j l : Nat} {px py pz pt : Pos} {kt k2 pt2} (B : BX X c T W N sc fx tb) (h1 : locC sc fx N i x = true) (h2 : locC sc fx N j y = true) (h3 : locC sc fx N l z = true) (ha : PA X [a, b, d] (tAll ([ra, rb, rc].map (rdE c m T W))))
    (hw : (cellC sc x || (cellC sc y || cellC sc z)) = true) (hs : swapsWithSole [.Tuple [.Name x px, .Name y py, .Name z pz] kt pt] (.Tuple [a, b, d] k2 pt2) pos.line X.env = pure false := by rfl)
    (ho : (assignEach [.Tuple [.Name x px, .Name y py, .Name z pz] kt pt] X.env).map (·.2) = [assign (.Tuple [.Name x px, .Name y py, .Name z pz] kt pt) X.env] := by rfl)
    (hn : (assignEach [.Name x px, .Name y py, .Name z pz] X.env).length = 3 := by rfl) (hst : (assignEach [.Name x px, .Name y py, .Name z pz] X.env).findIdx? (·.1) = none := by rfl) :
    PS X (.Assign [.Tuple [.Name x px, .Name y py, .Name z pz] kt pt] (.Tuple [a, b, d] k2 pt2) pos) (rdS c m T W (.par [i, j, l] [ra, rb, rc])) := by
  obtain ⟨u1, u2, u3⟩ := B.cb.loc h1
  obtain ⟨w1, w2, w3⟩ := B.cb.loc h2
  obtain ⟨y1, y2, y3⟩ := B.cb.loc h3
  refine (ps_asg (pe_tup ha) (pg_tup B.calm (pgs_cons (pg_name B.cb.ND u1 u2 u3) (pgs_cons (pg_name B.cb.ND w1 w2 w3) (pgs_cons (pg_name B.cb.ND y1 y2 y3) pgs_nil))) hn hst) hs (sw3c B.cb hw) ho).imp' fun D σ H h => ?_
  have q1 : rdE c m T W ra σ H fun u H1 => rdE c m T W rb σ H1 fun v H2 => rdE c m T W rc σ H2 fun w H3 => ∀ H4, (∀ a o, H3 a = some o → H4 a = some o) → D.nx (([i, j, l].zip [u, v, w]).foldl (fun τ p => τ.set p.1 (some p.2)) σ) H4 := par_readG h
  show rdE c m T W ra σ H fun u H1 => rdE c m T W rb σ H1 fun v H2 => rdE c m T W rc σ H2 fun w H3 => [u, v, w].length ≤ sizeLine ∧ ∀ p, H3 p = none → gTup X.K 3 (gCons (gName i) (gCons (gName j) (gCons (gName l) gNil))) (.ref p) σ (upd H3 p (.tup [u, v, w])) fun σ' H' => D.nx σ' H'
  exact rdE_mono q1 fun u H1 q2 => rdE_mono q2 fun v H2 q3 => rdE_mono q3 fun w H3 q4 => ⟨by show 3 ≤ sizeLine; decide, fun p hp => ⟨p, [u, v, w], rfl, SqT.of upd_same, rfl, u, [v, w], rfl, v, [w], rfl, w, [], rfl, rfl, q4 _ (grow_upd hp)⟩⟩
theorem sw3 {i j l : Nat} {px py pz pt : Pos} {kt k2 pt2} (B : CB X c N sc fx) (h1 : locC sc (fun _ => false) N i x = true) (h2 : locC sc (fun _ => false) N j y = true) (h3 : locC sc (fun _ => false) N l z = true) (hk : sc.kind = .function)
    (hl : (py.line == px.line && pz.line == px.line && !(x == y) && !(x == z) && !(y == z) && !(starred a || starred b || starred d)) = true)
    (hf : ([a, b, d].all (foldedForSure 8)) = false) (hc : ([a, b, d].all (constantsAlone 8)) = false) :
    swappedStores [.Tuple [.Name x px, .Name y py, .Name z pz] kt pt] (.Tuple [a, b, d] k2 pt2) X.env = pure (some [x, y, z]) := by
  have lc : ∀ {i : Nat} {x : Str}, locC sc (fun _ => false) N i x = true → X.env.kindOf x = some .local := fun {i x} h => by
    unfold locC at h
    simp only [Bool.and_false, Bool.or_false, Bool.and_eq_true, decide_eq_true_eq] at h
    show X.env.scope.names.lookup x = _
    rw [B.hs]; exact h.2
  have e1 := lc h1
  have e2 := lc h2
  have e3 := lc h3
  have eb : (X.env.blockKind != .function) = false := by
    unfold Env.blockKind
    simp [B.hs, hk]
  simp only [Bool.and_eq_true, Bool.not_eq_true', Bool.or_eq_false_iff, beq_iff_eq] at hl
  obtain ⟨⟨⟨⟨⟨l1, l2⟩, n1⟩, n2⟩, n3⟩, ⟨l3, l4⟩, l5⟩ := hl
  have m1 : (y == x) = false := by rw [beq_eq_false_iff_ne] at n1 ⊢; exact Ne.symm n1
  have m2 : (z == x) = false := by rw [beq_eq_false_iff_ne] at n2 ⊢; exact Ne.symm n2
  have m3 : (z == y) = false := by rw [beq_eq_false_iff_ne] at n3 ⊢; exact Ne.symm n3
  have nn : (some NameKind.local == some NameKind.local && px.line == px.line) = true := by simp
  unfold swappedStores
  simp only [List.length_cons, List.length_nil, eb, List.any_cons, List.any_nil, hf, hc, List.filterMap_cons, List.filterMap_nil, e1, e2, e3, l1, l2, List.head?, Option.map, Option.getD, Expr.pos, nn, if_true]
  have ed : ([x, y, z] : List Str).eraseDups = [x, y, z] := by
    simp [List.eraseDups_cons, m1, m2, m3]
  rw [if_neg (by simp), if_neg]
  · rw [if_neg (by rw [ed]; simp), if_neg (by simp), if_neg (by simp)]
  · intro h
    rw [Bool.or_eq_true, Bool.or_eq_true, Bool.or_eq_true] at h
    rcases h with h | h | h | h
    · cases a <;> first | exact absurd (show false = true from h) (by decide) | exact absurd (show true = false from l3) (by decide)
    · cases b <;> first | exact absurd (show false = true from h) (by decide) | exact absurd (show true = false from l4) (by decide)
    · cases d <;> first | exact absurd (show false = true from h) (by decide) | exact absurd (show true = false from l5) (by decide)
    · exact nomatch h
theorem s_par3 {i j l : Nat} {px py pz pt : Pos} {kt k2 pt2} (B : BX X c T W N sc fx tb) (h1 : locC sc (fun _ => false) N i x = true) (h2 : locC sc (fun _ => false) N j y = true) (h3 : locC sc (fun _ => false) N l z = true) (hij : (i ≠ j ∧ i ≠ l) ∧ j ≠ l) (ha : PA X [a, b, d] (tAll ([ra, rb, rc].map (rdE c m T W))))
    (hw : swappedStores [.Tuple [.Name x px, .Name y py, .Name z pz] kt pt] (.Tuple [a, b, d] k2 pt2) X.env = pure (some [x, y, z])) (hs : swapsWithSole [.Tuple [.Name x px, .Name y py, .Name z pz] kt pt] (.Tuple [a, b, d] k2 pt2) pos.line X.env = pure false := by rfl) :
    PS X (.Assign [.Tuple [.Name x px, .Name y py, .Name z pz] kt pt] (.Tuple [a, b, d] k2 pt2) pos) (rdS c m T W (.par [i, j, l] [ra, rb, rc])) := by
  have lc : ∀ {i : Nat} {x : Str}, locC sc (fun _ => false) N i x = true → X.N[i]? = some x ∧ X.env.scope.names.lookup x = some .local := fun {i x} h => by
    unfold locC at h
    simp only [Bool.and_false, Bool.or_false, Bool.and_eq_true, decide_eq_true_eq] at h
    exact ⟨by rw [B.cb.hN]; exact h.1, by rw [B.cb.hs]; exact h.2⟩
  refine (ps_par3 B.calm B.cb.ND (lc h1).1 (lc h2).1 (lc h3).1 hij.1.1 hij.1.2 hij.2 (lc h1).2 (lc h2).2 (lc h3).2 ha hw hs).imp' fun D σ H h => ?_
  have q1 : rdE c m T W ra σ H fun u H1 => rdE c m T W rb σ H1 fun v H2 => rdE c m T W rc σ H2 fun w H3 => D.nx (([i, j, l].zip [u, v, w]).foldl (fun τ p => τ.set p.1 (some p.2)) σ) H3 := par_read h
  show rdE c m T W ra σ H fun u H1 => rdE c m T W rb σ H1 fun v H2 => rdE c m T W rc σ H2 fun w H3 => ∃ u' v' w', [u, v, w] = [u', v', w'] ∧ D.nx (((σ.set i (some u')).set j (some v')).set l (some w')) H3
  exact rdE_mono q1 fun u H1 q2 => rdE_mono q2 fun v H2 q3 => rdE_mono q3 fun w H3 q4 => ⟨u, v, w, rfl, q4⟩
end
end DL
end
section
set_option Elab.async false
set_option linter.all false
set_option maxRecDepth 100000
set_option maxHeartbeats 3900000
/-! DL42: isinstance of one built-in type. -/
namespace DL
open PySem PySem.Spec L2
def notScr : DL.D → Bool
  | .scr _ => false
  | _ => true
def P_isi (t : Ty) : List DL.D → (Sl → Prop) → Prop
  | [d], Q => notScr d = true ∧ Q (.v (.bl (isTy d t)))
  | _, _ => False
theorem m_isi (t : Ty) : ∀ ds (Q Q' : Sl → Prop), P_isi t ds Q → (∀ s, Q s → Q' s) → P_isi t ds Q' := by
  intro ds Q Q' h k
  unfold P_isi at h ⊢; split at h
  · exact ⟨h.1, k _ h.2⟩
  · exact h.elim
def tyN : DL.D → String
  | .non => "NoneType"
  | .bl _ => "bool"
  | .int _ => "int"
  | .str _ => "str"
  | .tup _ => "tuple"
  | .lst _ => "list"
  | .scr _ => "list"
  | .dK _ => "dict"
  | .dT _ => "dict"
theorem kit_ty {K : PySem.W.Frag} (d : DL.D) (t : Ty) (h : notScr d = true) : PySem.W.kitOne K (.type (tyN d)) (.type t.nm) = some (isTy d t) := by
  cases d <;> first | (cases t <;> rfl) | cases h
theorem ty_of {K : PySem.W.Frag} {H : Hp} {Z : Zn} {x : V} {d : DL.D} (r : Rep K H Z 0 x d []) (h : notScr d = true) : TyX K H x (.type (tyN d)) := by
  cases d with
  | non => cases r; exact .base .non
  | bl b => cases r; exact .base (.bl b)
  | int b => cases r; exact .base (.int b)
  | str b => cases r; exact .base (.str b)
  | tup xs => obtain ⟨a, vs, rfl, h1, _⟩ := Rep.tup_inv r; exact .base (.tup h1)
  | lst xs => obtain ⟨a, vs, rfl, h1, _, _⟩ := Rep.lst0_inv r; exact .base (.lst h1)
  | dK xs => obtain ⟨a, vs, rfl, h1, _⟩ := Rep.dK0_inv r; exact .base (.dK h1)
  | dT xs => obtain ⟨a, vs, rfl, h1, _⟩ := Rep.dT0_inv r; exact .base (.dT h1)
  | scr _ => cases h
section
variable {X : Cx} {c : Cn} {m : Am} {T : Txt} {W : WX} {N : List Str} {sc : Scope} {fx : Str → Bool} {tb : Tb} {a : Expr} {ra : RE} {pos p p2 : Pos} {x : Str}
theorem e_isi {j : Nat} {t : Ty} {tn : Str} (B : CB X c N sc fx) (hj : T.ctr j = opC (P_isi t) (m_isi t)) (hg : glC sc "isinstance" = true) (hg2 : glC sc tn = true) (hb2 : tn ∈ biN) (hv2 : bootBuiltins tn = some (.type t.nm)) (hn2 : tn ≠ "__name__") (ha : PE X a (rdE c m T W ra))
    (hs : starEach [a, .Name tn p2] X.env = (false, eval a X.env) :: starEach [.Name tn p2] X.env := by rfl) (hs2 : starEach [.Name tn p2] X.env = (false, eval (.Name tn p2) X.env) :: starEach [] X.env := by rfl) (hpl : (backTo pos (starEach [.Name tn p2] X.env)).any (·.1) = false := by rfl) :
    PE X (.Call (.Name "isinstance" p) [a, .Name tn p2] [] pos) (rdE c m T W (.call j [ra])) := by
  refine (pe_callB call_isi (B.gl hg).1 (B.bl _ (by simp)) PyProof.Rows.boot_isinstance (pa_cons ha (pa_cons (pe_bltn (v := .ty t.nm) (B.gl hg2).1 (B.bl _ hb2) hv2 rfl hn2 (B.gl hg2).2) pa_nil hs2) hs) (by decide) (B.gl hg).2 hs hpl).imp' fun σ H Q h => ?_
  have h1 : rdE c m T W ra σ H fun x H1 => spC c (T.ctr j) (T.len j).length [x] H1 Q (WE W σ) := call_read h
  show rdE c m T W ra σ H fun x H1 => rIsi X.K [x, .ty t.nm] H1 Q
  refine rdE_mono h1 fun x H1 q => ?_
  rw [hj] at q
  obtain ⟨Z, ds, hs, q2⟩ := op_read q
  unfold P_isi at q2
  split at q2
  · rename_i d
    obtain ⟨x', e, hx⟩ := rs1 hs
    cases e
    exact ⟨x, .ty t.nm, _, _, _, rfl, .ty _, by rw [← B.hK]; exact ty_of hx q2.1, kit_ty d t q2.1, q2.2.bl⟩
  · exact q2.elim
end
end DL
end
section
set_option Elab.async false
set_option linter.all false
set_option maxRecDepth 100000
set_option maxHeartbeats 3900000
/-! DL43: raise X(), X an own class below ValueError without an own __init__. -/
namespace DL
open PySem PySem.Spec PyProof.Rows L2  -- so
/-- such a class -/
def RaP (K : PySem.W.Frag) (mg : Str → Option Value) (c : Cn) (i : Nat) (x : Str) : Prop :=
  mg x = some (.ref (c.ca i)) ∧ PySem.W.excIn K (c.ca i) He.veBase "ValueError.__new__" = true ∧ PySem.W.keepIn K (.ref (c.ca i)) = true ∧ PySem.W.subIn K (.ref (c.ca i)) (.type "BaseException") = some true ∧ PySem.W.typeIn K (.ref (c.ca i)) = some (.type "type")
section
variable {X : Cx} {c : Cn} {m : Am} {T : Txt} {W : WX} {N : List Str} {sc : Scope} {fx : Str → Bool} {tb : Tb} {pos p p2 : Pos} {x : Str}
theorem pmk_own0 {C : Addr} (q : PySem.W.excIn X.K C He.veBase "ValueError.__new__" = true) (gC : X.mg x = some (.ref C)) (kC : PySem.W.keepIn X.K (.ref C) = true) (r : Raises X (.ref C)) (hg : Gl X x) (hdb : (x == ("__debug__" : Str)) = false) :
    PMk X (.Call (.Name x p) [] [] pos) (fun _ H Q => Q (.ref C) none H) := by
  intro pins s σ H Q I h
  refine wpAny_Call_Name_kw (ld_glob I hg gC ?_ hdb)  -- so
  refine PySem.W.callWith_K0 I.kIn kC ?_
  show wpAny _ _ (call (.ref C) []) _ _ _
  obtain ⟨bm, N, nm, qn, bs, hdct, sn, sub, ab, col, dd, k0, k1, k2, k3, k5, mN, hC, hN, hni, T⟩ := exc_obj I.kIn q
  refine wpAny_call_exc_subT PySem.F.excBase_ValueError T hC hN hni (fun h' e hm => ?_) (Nat.zero_le _)
  exact mk_of I hm r h (I.hok.gone hm.new)
theorem s_raise0 {i : Nat} (B : BX X c T W N sc fx tb) (R : RaP X.K X.mg c i x) (hg : glC sc x = true) : PS X (.Raise (some (.Call (.Name x p) [] [] p2)) none pos) (rdS c m T W (.rse i none)) := by
  obtain ⟨h1, h2, h3, h4, h5⟩ := R
  refine (ps_raise B.calm B.tk (pmk_own0 h2 h1 h3 (raises_own h4 h5) (B.cb.gl hg).1 (B.cb.gl hg).2)).imp' fun D σ H h => ?_
  obtain ⟨env, Z, F, S, h⟩ := h
  simp only [wpS] at h
  exact h (.ref (c.ca i)) none σ H Z F (Ext.refl ..) S ⟨rfl, trivial⟩ (Pin.refl _ _)
end
end DL
namespace DL
open PySem PySem.Spec PyProof.Rows L2  -- so
/-- the text's plain exception classes -/
def EP (K : PySem.W.Frag) (mg : Str → Option Value) (c : Cn) (l : List (Nat × Str)) : Prop := ∀ p ∈ l, RaP K mg c p.1 p.2
theorem x_raise0 {X : Cx} {c : Cn} {m : Am} {T : Txt} {W : WX} {N : List Str} {sc : Scope} {fx : Str → Bool} {tb : Tb} {pos p p2 : Pos} {x : Str} {i : Nat} {l : List (Nat × Str)} (j : Nat) (B : BX X c T W N sc fx tb) (R : EP X.K X.mg c l) (hj : l[j]? = some (i, x)) (hg : glC sc x = true) :
    PS X (.Raise (some (.Call (.Name x p) [] [] p2)) none pos) (rdS c m T W (.rse i none)) := s_raise0 B (R _ (List.mem_of_getElem? hj)) hg
end DL
end
section
set_option Elab.async false
set_option linter.all false
set_option maxRecDepth 100000
set_option maxHeartbeats 3900000
/-! DL44: d[i], d[j] = a, b. -/
namespace DL
open PySem PySem.Spec L2
/-- a list that is lent, two items put otherwise -/
def set2C : Ctr where
  run := fun ss Q _ => ∃ xs i j a b x y, ss = [.p 0 (.lst xs), .v x, .v y, .v (.int i), .v (.int j)] ∧ ixN xs.length i = some a ∧ ixN xs.length j = some b ∧ Q (.v .non) [.p 0 (.lst ((xs.set a x).set b y)), .no, .no, .no, .no]
  mono := fun {ss Q Q' E E'} ⟨xs, i, j, a, b, x, y, h1, h2, h3, q⟩ hq _ => ⟨xs, i, j, a, b, x, y, h1, h2, h3, hq _ _ q⟩
section
variable {X : Cx} {c : Cn} {m : Am} {T : Txt} {W : WX} {N : List Str} {sc : Scope} {fx : Str → Bool} {tb : Tb} {a b : Expr} {ra rb : RE} {pos : Pos} {x y z : Str}
theorem nst_okN {H : Hp} {n : Nat} {vs : List V} {Z : Zn} {F : Fs} {ss : List Sl} {d d' : DL.D} {b : Addr} {o : HO} (S : StOk c (am0 vs) H Z (vs.map some) (.p n d :: ss) F) (hb : b ∈ F 0) (ho : Mut (some o)) {x0 : V} (h0 : vs[0]? = some x0) (r : Rep c.K (upd H b o) Z (n + 1) x0 d' (F 0)) (hs : ∀ (i : Nat) (s : Sl), ss[i]? = some s → ∃ d, s = Sl.v d) :
    StOk c (am0 vs) (upd H b o) Z (vs.map some) (.p n d' :: ss.map fun _ => Sl.no) F ∧ Ext H Z F (upd H b o) Z F := by
  have mu := S.muts hb
  refine ⟨⟨by have := S.len; simpa using this, fun i s e => ?_, fun i hi => S.out i (by simpa using hi), S.dis, S.zn, fun a ha q => ?_⟩, ⟨fun a u q k => ?_, fun a ha q => ?_, fun i a h => .inl ⟨i, h⟩, fun _ h => h, fun _ h => .inl h⟩⟩
  · cases i with
    | zero =>
      simp only [List.getElem?_cons_zero, Option.some.injEq] at e  -- so
      subst e
      refine ⟨x0, by rw [List.getElem?_map, h0]; rfl, h0, r⟩
    | succ i =>
      simp only [List.getElem?_cons_succ, List.getElem?_map, Option.map_eq_some_iff] at e
      obtain ⟨s', e1, rfl⟩ := e
      obtain ⟨dd, rfl⟩ := hs i s' e1
      exact (S.sl (i + 1) (.v dd) (by simpa using e1)).1
  · by_cases e : a = b
    · subst e; exact S.zn 0 a hb ha
    · rw [upd_ne e] at q; exact S.zh a ha q
  · rw [upd_ne fun e2 => ?_]; exact q
    subst e2
    rcases k with k | k
    · rw [q] at mu; exact k mu
    · exact k 0 hb
  · by_cases e : a = b
    · subst e; rw [upd_same] at q; cases q
    · rw [upd_ne e] at q; exact ha q
theorem set2_ok {x0 v1 v2 i1 i2 : V} {H H2 : Hp} {Q : VK} {E : XK} (h : spC c set2C 5 [x0, v1, v2, i1, i2] H Q E) (g : ∀ a o, H a = some o → H2 a = some o) :
    ∃ A ws i j p q, x0 = .ref A ∧ i1 = .int i ∧ i2 = .int j ∧ H2 A = some (.lst ws) ∧ ixN ws.length i = some p ∧ ixN ws.length j = some q ∧ Q .non (upd H2 A (.lst ((ws.set p v1).set q v2))) := by
  obtain ⟨_, Z, ss, F, S, xs, i, j, p, q, d1, d2, rfl, h1, h2, k⟩ := h
  obtain ⟨x, hx, _, r0⟩ := S.sl 0 _ rfl
  obtain ⟨e1, y1, hy1, r1⟩ := S.sl 1 _ rfl
  obtain ⟨e2, y2, hy2, r2⟩ := S.sl 2 _ rfl
  obtain ⟨e3, y3, hy3, r3⟩ := S.sl 3 _ rfl
  obtain ⟨e4, y4, hy4, r4⟩ := S.sl 4 _ rfl
  cases hx
  cases hy1
  cases hy2
  cases hy3
  cases hy4
  obtain ⟨A, ws, G1, rfl, eF, g3, g4, g5⟩ := r0.lst1_inv
  have := g4.nilF
  subst this
  have ei := (Rep.int_inv r3).1
  have ej := (Rep.int_inv r4).1
  subst ei ej
  have S2 := S.grow g
  have ha : A ∈ F 0 := by rw [eF]; exact List.mem_cons_self
  have kp : ∀ {o : HO} {vs : List V} {ds : List DL.D}, Rs c.K H Z 0 vs ds [] → Rs c.K (upd H2 A o) Z 0 vs ds [] := fun r => mod_rs S2 ha (r.grow g) (by simp)
  obtain ⟨G', sub, r5⟩ := Rs.setN p (kp (o := .lst ((ws.set p v1).set q v2)) g4) (kp r1)
  obtain ⟨G'', sub2, r6⟩ := Rs.setN q r5 (kp r2)
  have eG : G'' = [] := List.eq_nil_iff_forall_not_mem.mpr fun b hb => by have := sub _ (sub2 b hb); cases this
  subst eG
  obtain ⟨S1, E1⟩ := nst_okN (o := .lst ((ws.set p v1).set q v2)) S2 ha trivial rfl (by rw [eF]; exact Rep.mk_lst1 upd_same r6 (by simp)) fun i s e => by
    match i, e with
    | 0, e => cases e; exact ⟨_, rfl⟩
    | 1, e => cases e; exact ⟨_, rfl⟩
    | 2, e => cases e; exact ⟨_, rfl⟩
    | 3, e => cases e; exact ⟨_, rfl⟩
  have hl := g4.length
  exact ⟨A, ws, i, j, p, q, rfl, rfl, rfl, g _ _ g3, by rw [hl]; exact h1, by rw [hl]; exact h2, k _ _ Z F [] ((Ext.grow g).trans E1) S1 ⟨rfl, .non .nil⟩ Sep.nil GSub.nil⟩
theorem sw_sub {p1 p2 pt : Pos} {kt k2 pt2} {u v w t : Expr} : swappedStores [.Tuple [.Subscript u v p1, .Subscript w t p2] kt pt] (.Tuple [a, b] k2 pt2) X.env = pure none := by
  unfold swappedStores
  dsimp only
  split
  · rfl
  · split
    · rfl
    · exact if_pos (Bool.or_eq_true_iff.mpr (.inl rfl))
theorem s_set2 {j i k l : Nat} {p1 p2 p3 p4 q1 q2 pt : Pos} {kt k2 pt2} (B : BX X c T W N sc fx tb) (hj : T.ctr j = set2C) (hl : T.len j = [true, false, false, false, false]) (hv : visC sc N i x = true) (hk : visC sc N k y = true) (hz : visC sc N l z = true) (ha : PA X [a, b] (tAll ([ra, rb].map (rdE c m T W))))
    (hs : swapsWithSole [.Tuple [.Subscript (.Name x p1) (.Name y p2) q1, .Subscript (.Name x p3) (.Name z p4) q2] kt pt] (.Tuple [a, b] k2 pt2) pos.line X.env = pure false := by rfl)
    (ho : (assignEach [.Tuple [.Subscript (.Name x p1) (.Name y p2) q1, .Subscript (.Name x p3) (.Name z p4) q2] kt pt] X.env).map (·.2) = [assign (.Tuple [.Subscript (.Name x p1) (.Name y p2) q1, .Subscript (.Name x p3) (.Name z p4) q2] kt pt) X.env] := by rfl)
    (hn : (assignEach [.Subscript (.Name x p1) (.Name y p2) q1, .Subscript (.Name x p3) (.Name z p4) q2] X.env).length = 2 := by rfl) (hst : (assignEach [.Subscript (.Name x p1) (.Name y p2) q1, .Subscript (.Name x p3) (.Name z p4) q2] X.env).findIdx? (·.1) = none := by rfl) :
    PS X (.Assign [.Tuple [.Subscript (.Name x p1) (.Name y p2) q1, .Subscript (.Name x p3) (.Name z p4) q2] kt pt] (.Tuple [a, b] k2 pt2) pos) (rdS c m T W (.exp (.call j [.pk i, ra, rb, .pk k, .pk l]))) := by
  refine (ps_asg (pe_tup ha) (pg_tup B.calm (pgs_cons (pg_sub (pe_vr B.cb hv) (pe_vr B.cb hk) set_list (by intro _; rfl)) (pgs_cons (pg_sub (pe_vr B.cb hv) (pe_vr B.cb hz) set_list (by intro _; rfl)) pgs_nil)) hn hst) hs sw_sub ho).imp' fun D σ H h => ?_
  have h0 : rdE c m T W (.call j [.pk i, ra, rb, .pk k, .pk l]) σ H fun _ H1 => D.nx σ H1 := by
    obtain ⟨env, Z, F, S, h⟩ := h
    simp only [wpS] at h
    exact ⟨env, Z, F, S, wpE_mono _ env (wpE_lk _ env h) (fun s e1 h1 x H1 Z1 F1 G E1 S1 t sp gs => h1.2 σ H1 Z1 F1 E1 S1 (Pin.refl _ _)) fun x e h => KsD.exE h.2⟩
  have h1 : rdE c m T W (.pk i) σ H fun x0 H1 => rdE c m T W ra σ H1 fun v1 H2 => rdE c m T W rb σ H2 fun v2 H3 => rdE c m T W (.pk k) σ H3 fun i1 H4 => rdE c m T W (.pk l) σ H4 fun i2 H5 => spC c (T.ctr j) (T.len j).length [x0, v1, v2, i1, i2] H5 (fun _ H1 => D.nx σ H1) (WE W σ) := call_read h0
  obtain ⟨x0, e0, h2⟩ := pk_read h1
  show rdE c m T W ra σ H fun v1 H1 => rdE c m T W rb σ H1 fun v2 H2 => [v1, v2].length ≤ sizeLine ∧ ∀ p, H2 p = none → gTup X.K 2 (gCons (gSub (tVar i) (tVar k) rSetL) (gCons (gSub (tVar i) (tVar l) rSetL) gNil)) (.ref p) σ (upd H2 p (.tup [v1, v2])) fun σ' H' => D.nx σ' H'
  refine rdE_mono h2 fun v1 H1 h3 => rdE_mono h3 fun v2 H2 h4 => ⟨by show 2 ≤ sizeLine; decide, fun p hp => ?_⟩
  obtain ⟨i1, e1, h5⟩ := pk_read h4
  obtain ⟨i2, e2, h6⟩ := pk_read h5
  rw [hj, hl] at h6
  obtain ⟨A, ws, i', j', p', q', rfl, rfl, rfl, g1, g2, g3, g4⟩ := set2_ok h6 (grow_upd (o := .tup [v1, v2]) hp)
  refine ⟨p, [v1, v2], rfl, SqT.of upd_same, rfl, v1, [v2], rfl, .ref A, e0, .int i', e1, A, ws, i', p', rfl, rfl, g1, g2, v2, [], rfl, .ref A, e0, .int j', e2, A, ws.set p' v1, j', q', rfl, rfl, upd_same, by rw [List.length_set]; exact g3, rfl, ?_⟩
  have eH : upd (upd (upd H2 p (.tup [v1, v2])) A (.lst (ws.set p' v1))) A (.lst ((ws.set p' v1).set q' v2)) = upd (upd H2 p (.tup [v1, v2])) A (.lst ((ws.set p' v1).set q' v2)) := by
    funext b
    by_cases h : b = A
    · subst h; rw [upd_same, upd_same]
    · rw [upd_ne h, upd_ne h, upd_ne h]
  rw [eH]
  exact g4
end
end DL
end
section
set_option Elab.async false
set_option linter.all false
set_option maxRecDepth 100000
set_option maxHeartbeats 3900000
/-! DL45: further operations told as calls: isinstance, two items put at once. -/
namespace DL
open PySem PySem.Spec L2
structure OpsB (T : Txt) : Prop extends Ops T where
  isI : At T 1011 (opC (P_isi .int) (m_isi .int)) [false]
  isB : At T 1012 (opC (P_isi .bool) (m_isi .bool)) [false]
  isS : At T 1013 (opC (P_isi .str) (m_isi .str)) [false]
  isT : At T 1014 (opC (P_isi .tuple) (m_isi .tuple)) [false]
  isL : At T 1015 (opC (P_isi .list) (m_isi .list)) [false]
  isD : At T 1016 (opC (P_isi .dict) (m_isi .dict)) [false]
  set2 : At T 1017 set2C [true, false, false, false, false]
def opsCtrB (f : Nat → Ctr) : Nat → Ctr
  | 1011 => opC (P_isi .int) (m_isi .int)
  | 1012 => opC (P_isi .bool) (m_isi .bool)
  | 1013 => opC (P_isi .str) (m_isi .str)
  | 1014 => opC (P_isi .tuple) (m_isi .tuple)
  | 1015 => opC (P_isi .list) (m_isi .list)
  | 1016 => opC (P_isi .dict) (m_isi .dict)
  | 1017 => set2C
  | n => opsCtr f n
def opsLenB (f : Nat → List Bool) : Nat → List Bool
  | 1011 => [false]
  | 1012 => [false]
  | 1013 => [false]
  | 1014 => [false]
  | 1015 => [false]
  | 1016 => [false]
  | 1017 => [true, false, false, false, false]
  | n => opsLen f n
theorem opsB_mk {T : Txt} {f : Nat → Ctr} {g : Nat → List Bool} (h1 : T.ctr = opsCtrB f) (h2 : T.len = opsLenB g) : OpsB T := by
  refine ⟨⟨?_, ?_, ?_, ?_, ?_, ?_, ?_, ?_, ?_, ?_, ?_⟩, ?_, ?_, ?_, ?_, ?_, ?_, ?_⟩ <;> exact ⟨by rw [h1]; rfl, by rw [h2]; rfl⟩
/-- is it of that type? -/
theorem r_isi {t : Ty} {d : D} {S : Sl → Prop} : P_isi t [d] S = (notScr d = true ∧ S (.v (.bl (isTy d t)))) := rfl
theorem r_set2 {xs : List D} {x y : D} {i j : Int} {Q : Sl → List Sl → Prop} {E : Ex → List Sl → Prop} : set2C.run [.p 0 (.lst xs), .v x, .v y, .v (.int i), .v (.int j)] Q E = ∃ a, ixN xs.length i = some a ∧ hold (fun a => ∃ b, ixN xs.length j = some b ∧ hold (fun b => Q (.v .non) [.p 0 (.lst ((xs.set a x).set b y)), .no, .no, .no, .no]) ⟨⟩ b) ⟨⟩ a := by
  apply propext
  constructor
  · rintro ⟨_, _, _, a, b, _, _, h, h1, h2, q⟩
    cases h
    exact ⟨a, h1, b, h2, q⟩
  · exact fun ⟨a, h1, b, h2, q⟩ => ⟨_, _, _, a, b, _, _, rfl, h1, h2, q⟩
end DL
end
section
set_option Elab.async false
set_option linter.all false
set_option maxRecDepth 100000
set_option maxHeartbeats 3900000
/-! DL46: defs that call themselves. -/
namespace DL
open PySem PySem.Spec L2
section
variable {P : Program} {w : World} {K : PySem.W.Frag} {mg : Str → Option Value} {base h : Heap} {c : Cn} {T T' : Txt} {fa : List He.Fa} {fn : List He.DefD}
theorem dfn_mk2 {k i np : Nat} {x : Str} {st : Stmt} {ps N : List Str} {body : List RS} (s : He.SaysD fa fn K) (X : K.In h) (G : h.Ns mainGlobals mg) (hd : dOf x st ∈ fn) (hf : He.Fa.glo x ∈ fa) (S : FnScope N ps (defScope st)) (hps : ps.length = np) (hl : (T'.len i).length = np) (le : (T'.ctr i).Le (ctrOf T np (N.length - np) body))
    (ck : ∀ (f cdv : _) (A : Around) (outer : List Env) (s : Shared) (H : Hp) (vs : List V) (E : XK), A.guards = some [] → Room k (A.deeper (PyProof.Rows.envOfC x (defScope st) s.heap.objs.size f cdv)) →
      PSs (cxOf (L2.CX P w) P w K mg base N x (defScope st) f cdv A outer s H E) (defBody st) (rdSs c (am0 vs) T (WE0 E) body)) : Dfn P w K mg base c T' (k + 1) i x st ps := by
  obtain ⟨fd, F⟩ := s.defs hd
  have F' : Fun K x x st (He.ga K x) fd := fun_of F
  refine ⟨fd, ?_, He.glo_ok X G (s.facts hf), F'⟩
  rw [hl]
  exact (fnG_of F' S hps (ck _)).imp fun vs H Q E q => spC_le le q
theorem dfn_no {k i : Nat} {x : Str} {st : Stmt} {ps : List Str} (s : He.SaysD fa fn K) (X : K.In h) (G : h.Ns mainGlobals mg) (hd : dOf x st ∈ fn) (hf : He.Fa.glo x ∈ fa) (hl : (T.len i).length = ps.length) (no : ∀ ss Q E, (T.ctr i).run ss Q E → False) : Dfn P w K mg base c T k i x st ps := by
  obtain ⟨fd, F⟩ := s.defs hd
  have F' : Fun K x x st (He.ga K x) fd := fun_of F
  refine ⟨fd, ⟨fun vs H Q E q => q.1.trans hl, fun A outer s H args us vs Q E _ _ _ _ _ q => ?_⟩, He.glo_ok X G (s.facts hf), F'⟩
  obtain ⟨_, _, _, _, _, q⟩ := q
  exact (no _ _ _ q).elim
end
end DL
end
section
set_option Elab.async false
set_option linter.all false
/-! G1: houses joined by roads; the tree that is grown road by road; flows along it (plain law). -/
namespace G
open Classical
abbrev Rd := Nat × Nat
inductive Conn (es : List Rd) (u : Nat) : Nat → Prop
  | refl : Conn es u u
  | fwd {v w : Nat} : Conn es u v → (v, w) ∈ es → Conn es u w
  | bwd {v w : Nat} : Conn es u v → (w, v) ∈ es → Conn es u w
theorem Conn.trans {es : List Rd} {u v w : Nat} (h : Conn es u v) (g : Conn es v w) : Conn es u w := by
  induction g with
  | refl => exact h
  | fwd _ e ih => exact ih.fwd e
  | bwd _ e ih => exact ih.bwd e
theorem Conn.edge {es : List Rd} {a b : Nat} (h : (a, b) ∈ es) : Conn es a b := Conn.refl.fwd h
theorem Conn.edge' {es : List Rd} {a b : Nat} (h : (a, b) ∈ es) : Conn es b a := Conn.refl.bwd h
theorem Conn.symm {es : List Rd} {u v : Nat} (h : Conn es u v) : Conn es v u := by
  induction h with
  | refl => exact .refl
  | fwd _ e ih => exact (Conn.edge' e).trans ih
  | bwd _ e ih => exact (Conn.edge e).trans ih
theorem Conn.mono {es fs : List Rd} (hs : ∀ r ∈ es, r ∈ fs) {u v : Nat} (h : Conn es u v) : Conn fs u v := by
  induction h with
  | refl => exact .refl
  | fwd _ e ih => exact ih.fwd (hs _ e)
  | bwd _ e ih => exact ih.bwd (hs _ e)
theorem conn_add {es : List Rd} {a b u v : Nat} (h : Conn (es ++ [(a, b)]) u v) : Conn es u v ∨ (Conn es u a ∧ Conn es b v) ∨ (Conn es u b ∧ Conn es a v) := by
  induction h with
  | refl => exact .inl .refl
  | fwd _ e ih =>
    rename_i v w
    rcases List.mem_append.mp e with e | e
    · rcases ih with h | ⟨h1, h2⟩ | ⟨h1, h2⟩
      · exact .inl (h.fwd e)
      · exact .inr (.inl ⟨h1, h2.fwd e⟩)
      · exact .inr (.inr ⟨h1, h2.fwd e⟩)
    · rw [List.mem_singleton] at e
      cases e
      rcases ih with h | ⟨h1, h2⟩ | ⟨h1, h2⟩
      · exact .inr (.inl ⟨h, .refl⟩)
      · exact .inr (.inl ⟨h1, .refl⟩)
      · exact .inl h1
  | bwd _ e ih =>
    rename_i v w
    rcases List.mem_append.mp e with e | e
    · rcases ih with h | ⟨h1, h2⟩ | ⟨h1, h2⟩
      · exact .inl (h.bwd e)
      · exact .inr (.inl ⟨h1, h2.bwd e⟩)
      · exact .inr (.inr ⟨h1, h2.bwd e⟩)
    · rw [List.mem_singleton] at e
      cases e
      rcases ih with h | ⟨h1, h2⟩ | ⟨h1, h2⟩
      · exact .inr (.inr ⟨h, .refl⟩)
      · exact .inl h1
      · exact .inr (.inr ⟨h1, .refl⟩)
theorem conn_add_iff {es : List Rd} {a b u v : Nat} : Conn (es ++ [(a, b)]) u v ↔ Conn es u v ∨ (Conn es u a ∧ Conn es b v) ∨ (Conn es u b ∧ Conn es a v) := by
  refine ⟨conn_add, fun h => ?_⟩
  have m : ∀ {x y}, Conn es x y → Conn (es ++ [(a, b)]) x y := fun h => h.mono fun r hr => List.mem_append_left _ hr
  have e : (a, b) ∈ es ++ [(a, b)] := List.mem_append_right _ (List.mem_singleton.mpr rfl)
  rcases h with h | ⟨h1, h2⟩ | ⟨h1, h2⟩
  · exact m h
  · exact ((m h1).fwd e).trans (m h2)
  · exact ((m h1).bwd e).trans (m h2)
theorem Conn.lt {n : Nat} {es : List Rd} (hs : ∀ r ∈ es, r.1 < n ∧ r.2 < n) {u v : Nat} (hu : u < n) (h : Conn es u v) : v < n := by
  induction h with
  | refl => exact hu
  | fwd _ e _ => exact (hs _ e).2
  | bwd _ e _ => exact (hs _ e).1
/-- the houses that one comes to -/
noncomputable def reachF (n : Nat) (es : List Rd) (u : Nat) : List Nat := (List.range n).filter fun v => decide (Conn es u v)
theorem mem_reach {n : Nat} {es : List Rd} {u v : Nat} : v ∈ reachF n es u ↔ v < n ∧ Conn es u v := by simp [reachF]
theorem reach_nodup {n : Nat} {es : List Rd} {u : Nat} : (reachF n es u).Nodup := List.Pairwise.filter _ List.nodup_range
theorem reach_len {n : Nat} {es : List Rd} {u : Nat} : (reachF n es u).length ≤ n := by
  have := List.length_filter_le (fun v => decide (Conn es u v)) (List.range n)
  rw [List.length_range] at this
  exact this
/-- what is closed under roads holds all that one comes to -/
theorem closed_all {es : List Rd} {u : Nat} {K : Nat → Prop} (h0 : K u) (hc : ∀ r ∈ es, K r.1 ↔ K r.2) : ∀ v, Conn es u v → K v := by
  intro v h
  induction h with
  | refl => exact h0
  | fwd _ e ih => exact (hc _ e).mp ih
  | bwd _ e ih => exact (hc _ e).mpr ih

/-! ### the tree -/
abbrev rd (rs : List Rd) (k : Nat) : Rd := rs.getD k (0, 0)
abbrev esAt (rs : List Rd) (ps : List Nat) : List Rd := ps.map (rd rs)
noncomputable def treeStep (rs : List Rd) (found : List Nat) (k : Nat) : List Nat := if Conn (esAt rs found) (rd rs k).1 (rd rs k).2 then found else found ++ [k]
noncomputable def treeN (rs : List Rd) (k : Nat) : List Nat := (List.range k).foldl (treeStep rs) []
noncomputable def treeF (rs : List Rd) : List Nat := treeN rs rs.length
theorem treeN_succ (rs : List Rd) (k : Nat) : treeN rs (k + 1) = treeStep rs (treeN rs k) k := by
  unfold treeN
  rw [List.range_succ, List.foldl_append]; rfl
theorem treeN_lt (rs : List Rd) : ∀ k, ∀ p ∈ treeN rs k, p < k
  | 0, p, h => by simp [treeN] at h
  | k + 1, p, h => by
    rw [treeN_succ] at h
    unfold treeStep at h
    split at h
    · have := treeN_lt rs k p h; omega
    · rcases List.mem_append.mp h with h | h  -- so
      · have := treeN_lt rs k p h; omega
      · rw [List.mem_singleton] at h; omega
theorem treeN_sorted (rs : List Rd) : ∀ k, (treeN rs k).Pairwise (· < ·)
  | 0 => by simp [treeN]
  | k + 1 => by
    rw [treeN_succ]
    unfold treeStep
    split
    · exact treeN_sorted rs k
    · rw [List.pairwise_append]
      exact ⟨treeN_sorted rs k, List.pairwise_singleton _ _, fun a ha b hb => by rw [List.mem_singleton] at hb; rw [hb]; exact treeN_lt rs k a ha⟩
theorem treeN_len (rs : List Rd) : ∀ k, (treeN rs k).length ≤ k
  | 0 => by simp [treeN]
  | k + 1 => by
    rw [treeN_succ]
    unfold treeStep
    have := treeN_len rs k
    split
    · omega
    · simp; omega
/-- the tree joins what the roads join -/
theorem treeN_conn (rs : List Rd) : ∀ k, ∀ j < k, Conn (esAt rs (treeN rs k)) (rd rs j).1 (rd rs j).2
  | 0, j, h => by omega
  | k + 1, j, h => by
    rw [treeN_succ]
    unfold treeStep
    by_cases hj : j < k
    · have := treeN_conn rs k j hj
      split
      · exact this
      · exact this.mono fun r hr => by rw [esAt, List.map_append]; exact List.mem_append_left _ hr
    · have : j = k := by omega
      subst this
      split
      · assumption
      · refine Conn.edge ?_
        rw [esAt, List.map_append]
        exact List.mem_append_right _ (by simp)
theorem treeF_conn {rs : List Rd} {u v : Nat} (h : Conn rs u v) : Conn (esAt rs (treeF rs)) u v := by
  have key : ∀ r ∈ rs, Conn (esAt rs (treeF rs)) r.1 r.2 := fun r hr => by
    obtain ⟨j, hj, rfl⟩ := List.mem_iff_getElem.mp hr
    have := treeN_conn rs rs.length j hj
    rw [show rd rs j = rs[j] by simp [List.getD, List.getElem?_eq_getElem hj]] at this
    exact this
  induction h with
  | refl => exact .refl
  | fwd _ e ih => exact ih.trans (key _ e)
  | bwd _ e ih => exact ih.trans (key _ e).symm
/-- without one of its roads the tree does not join that road's ends -/
theorem treeN_cut (rs : List Rd) : ∀ k, ∀ p ∈ treeN rs k, ¬ Conn (esAt rs ((treeN rs k).filter fun o => decide (o ≠ p))) (rd rs p).1 (rd rs p).2
  | 0, p, h => by simp [treeN] at h
  | k + 1, p, h => by
    rw [treeN_succ] at h ⊢
    unfold treeStep at h ⊢
    split at h
    · rename_i hc
      rw [if_pos hc]
      exact treeN_cut rs k p h
    · rename_i hc
      rw [if_neg hc]
      rw [List.filter_append, esAt, List.map_append]
      rcases List.mem_append.mp h with h | h  -- so
      · have hpk := treeN_lt rs k p h
        have e1 : ([k].filter fun o => decide (o ≠ p)) = [k] := by
          rw [List.filter_cons_of_pos (by simp; omega)]; rfl
        rw [e1, List.map_singleton]
        intro hh
        have ih := treeN_cut rs k p h
        have sub : ∀ {x y}, Conn (esAt rs ((treeN rs k).filter fun o => decide (o ≠ p))) x y → Conn (esAt rs (treeN rs k)) x y := fun g => g.mono fun r hr => by
          obtain ⟨q, hq, rfl⟩ := List.mem_map.mp hr
          exact List.mem_map_of_mem (List.mem_filter.mp hq).1
        have pe : Conn (esAt rs (treeN rs k)) (rd rs p).1 (rd rs p).2 := Conn.edge (List.mem_map_of_mem (f := rd rs) h)
        rcases conn_add hh with g | ⟨g1, g2⟩ | ⟨g1, g2⟩
        · exact ih g
        · exact hc (((sub g1).symm.trans pe).trans (sub g2).symm)
        · exact hc (((sub g2).trans pe.symm).trans (sub g1))
      · rw [List.mem_singleton] at h
        subst h
        have e1 : ([p].filter fun o => decide (o ≠ p)) = [] := by simp
        have e2 : ((treeN rs p).filter fun o => decide (o ≠ p)) = treeN rs p := List.filter_eq_self.mpr fun q hq => by have := treeN_lt rs p q hq; simp; omega
        rw [e1, e2, List.map_nil, List.append_nil]
        exact hc
theorem treeF_cut {rs : List Rd} {p : Nat} (h : p ∈ treeF rs) : ¬ Conn (esAt rs ((treeF rs).filter fun o => decide (o ≠ p))) (rd rs p).1 (rd rs p).2 := treeN_cut rs _ p h
theorem treeF_lt {rs : List Rd} {p : Nat} (h : p ∈ treeF rs) : p < rs.length := treeN_lt rs _ p h
theorem treeF_len {rs : List Rd} : (treeF rs).length ≤ rs.length := treeN_len rs _

/-! ### what comes in, less what goes out -/
def bd1 (h : Nat) (z : Rd × Int) : Int := (if z.1.2 = h then z.2 else 0) - (if z.1.1 = h then z.2 else 0)
def bdZ (zs : List (Rd × Int)) (h : Nat) : Int := (zs.map (bd1 h)).sum
def bdry (rs : List Rd) (f : List Int) (h : Nat) : Int := bdZ (rs.zip f) h
theorem sum_ind {S : List Nat} (hS : S.Nodup) (a : Nat) (x : Int) : (S.map fun h => if a = h then x else 0).sum = if a ∈ S then x else 0 := by
  induction S with
  | nil => simp
  | cons b S ih =>
    rw [List.nodup_cons] at hS
    rw [List.map_cons, List.sum_cons, ih hS.2]
    by_cases e : a = b
    · subst e
      simp [hS.1]
    · simp [e]
theorem sum_sub (S : List Nat) (f g : Nat → Int) : (S.map fun h => f h - g h).sum = (S.map f).sum - (S.map g).sum := by
  induction S with
  | nil => rfl
  | cons b S ih => simp only [List.map_cons, List.sum_cons, ih]; omega
theorem sum_add (S : List Nat) (f g : Nat → Int) : (S.map fun h => f h + g h).sum = (S.map f).sum + (S.map g).sum := by
  induction S with
  | nil => rfl
  | cons b S ih => simp only [List.map_cons, List.sum_cons, ih]; omega
/-- the sum over some houses -/
theorem sum_bd {S : List Nat} (hS : S.Nodup) : ∀ zs : List (Rd × Int), (S.map (bdZ zs)).sum = (zs.map fun z => (if z.1.2 ∈ S then z.2 else 0) - (if z.1.1 ∈ S then z.2 else 0)).sum
  | [] => by
    have : (S.map (bdZ [])) = S.map fun _ => (0 : Int) := List.map_congr_left fun _ _ => rfl
    rw [this]
    induction S with
    | nil => rfl
    | cons b S ih => rw [List.nodup_cons] at hS; simpa using ih hS.2 (List.map_congr_left fun _ _ => rfl)
  | z :: zs => by
    have e : (S.map (bdZ (z :: zs))) = S.map fun h => bd1 h z + bdZ zs h := List.map_congr_left fun _ _ => rfl
    rw [e, sum_add, sum_bd hS zs, List.map_cons, List.sum_cons]
    have e2 : (S.map fun h => bd1 h z).sum = (if z.1.2 ∈ S then z.2 else 0) - (if z.1.1 ∈ S then z.2 else 0) := by
      have : (S.map fun h => bd1 h z) = S.map fun h => (if z.1.2 = h then z.2 else 0) - (if z.1.1 = h then z.2 else 0) := rfl
      rw [this, sum_sub, sum_ind hS, sum_ind hS]
    rw [e2]
theorem sum_one {α : Type} {f : α → Int} : ∀ {l : List α} {i : Nat} {x : α}, l[i]? = some x → (∀ j y, j ≠ i → l[j]? = some y → f y = 0) → (l.map f).sum = f x
  | [], i, x, h, _ => by simp at h
  | y :: l, 0, x, h, k => by
    simp only [List.getElem?_cons_zero, Option.some.injEq] at h  -- so
    subst h
    have : ∀ l : List α, (∀ z ∈ l, f z = 0) → (l.map f).sum = 0 := by
      intro l
      induction l with
      | nil => intro _; rfl
      | cons a l ih => intro h; rw [List.map_cons, List.sum_cons, h a (by simp), ih fun z hz => h z (by simp [hz])]; rfl
    rw [List.map_cons, List.sum_cons, this l fun z hz => ?_, Int.add_zero]
    obtain ⟨j, hj⟩ := List.getElem?_of_mem hz
    exact k (j + 1) z (by omega) (by simpa using hj)
  | y :: l, i + 1, x, h, k => by
    rw [List.map_cons, List.sum_cons, k 0 y (by omega) rfl, Int.zero_add]
    exact sum_one (by simpa using h) fun j z hj hz => k (j + 1) z (by omega) (by simpa using hz)
/-- the far side of a tree's road -/
noncomputable def farF (n : Nat) (rs : List Rd) (p : Nat) : List Nat := reachF n (esAt rs ((treeF rs).filter fun o => decide (o ≠ p))) (rd rs p).2
/-- along a tree's road goes what is wanted on its far side; q: one more road, x along it -/
theorem flow_far {n : Nat} {rs : List Rd} {f : List Int} {p q : Nat} (hr : ∀ r ∈ rs, r.1 < n ∧ r.2 < n) (hf : f.length = rs.length) (hp : p ∈ treeF rs) (hq : q ∉ treeF rs) (ho : ∀ j, j ∉ treeF rs → j ≠ q → f.getD j 0 = 0) :
    ((farF n rs p).map (bdry rs f)).sum = f.getD p 0 + ((if (rd rs q).2 ∈ farF n rs p then f.getD q 0 else 0) - (if (rd rs q).1 ∈ farF n rs p then f.getD q 0 else 0)) := by
  have hpl := treeF_lt hp
  have hpq : p ≠ q := fun e => hq (e ▸ hp)
  have rdn : ∀ j, j < rs.length → (rd rs j).1 < n ∧ (rd rs j).2 < n := fun j hj => by
    have := hr rs[j] (List.getElem_mem hj)
    rw [show rd rs j = rs[j] by simp [List.getD, List.getElem?_eq_getElem hj]]
    exact this
  have s2 : (rd rs p).2 ∈ farF n rs p := mem_reach.mpr ⟨(rdn p hpl).2, .refl⟩
  have s1 : (rd rs p).1 ∉ farF n rs p := fun h => treeF_cut hp (mem_reach.mp h).2.symm
  have both : ∀ j ∈ treeF rs, j ≠ p → ((rd rs j).2 ∈ farF n rs p ↔ (rd rs j).1 ∈ farF n rs p) := fun j hj hne => by
    have he : rd rs j ∈ esAt rs ((treeF rs).filter fun o => decide (o ≠ p)) := List.mem_map_of_mem (f := rd rs) (List.mem_filter.mpr ⟨hj, by simpa using hne⟩)
    have hn := rdn j (treeF_lt hj)
    constructor
    · intro h; exact mem_reach.mpr ⟨hn.1, (mem_reach.mp h).2.bwd he⟩
    · intro h; exact mem_reach.mpr ⟨hn.2, (mem_reach.mp h).2.fwd he⟩
  have e0 : ((farF n rs p).map (bdry rs f)).sum = ((rs.zip f).map fun z => (if z.1.2 ∈ farF n rs p then z.2 else 0) - (if z.1.1 ∈ farF n rs p then z.2 else 0)).sum := sum_bd reach_nodup (rs.zip f)
  rw [e0]
  have zi : ∀ j, j < rs.length → (rs.zip f)[j]? = some (rd rs j, f.getD j 0) := fun j hj => by
    rw [List.getElem?_zip_eq_some]
    exact ⟨by simp [List.getD, List.getElem?_eq_getElem hj], by simp [List.getD, List.getElem?_eq_getElem (show j < f.length by omega)]⟩
  -- one road's share
  let w : Rd × Int → Int := fun z => (if z.1.2 ∈ farF n rs p then z.2 else 0) - (if z.1.1 ∈ farF n rs p then z.2 else 0)
  have wz : ∀ j, j < rs.length → j ≠ p → j ≠ q → w (rd rs j, f.getD j 0) = 0 := fun j hj h1 h2 => by
    by_cases ht : j ∈ treeF rs
    · have := both j ht h1
      show (if (rd rs j).2 ∈ farF n rs p then f.getD j 0 else 0) - (if (rd rs j).1 ∈ farF n rs p then f.getD j 0 else 0) = 0
      by_cases hh : (rd rs j).1 ∈ farF n rs p
      · rw [if_pos (this.mpr hh), if_pos hh]; omega
      · rw [if_neg (fun h => hh (this.mp h)), if_neg hh]; omega
    · show (if (rd rs j).2 ∈ farF n rs p then f.getD j 0 else 0) - (if (rd rs j).1 ∈ farF n rs p then f.getD j 0 else 0) = 0
      rw [ho j ht h2]; simp
  have wp : w (rd rs p, f.getD p 0) = f.getD p 0 := by
    show (if (rd rs p).2 ∈ farF n rs p then f.getD p 0 else 0) - (if (rd rs p).1 ∈ farF n rs p then f.getD p 0 else 0) = _
    rw [if_pos s2, if_neg s1]; omega
  -- all but q
  have split : ∀ (g : Rd × Int → Int), (∀ j, j < rs.length → j ≠ p → g (rd rs j, f.getD j 0) = 0) → ((rs.zip f).map g).sum = g (rd rs p, f.getD p 0) := fun g hg =>
    sum_one (zi p hpl) fun j y hj hy => by
      have hjl : j < rs.length := by
        have := (List.getElem?_eq_some_iff.mp hy).1
        rw [List.length_zip] at this
        omega
      rw [zi j hjl] at hy
      cases hy
      exact hg j hjl hj
  by_cases hql : q < rs.length
  · -- take q's share away
    have tot : ∀ (l : List (Rd × Int)) (i : Nat) (x : Rd × Int), l[i]? = some x → (l.map w).sum = ((l.eraseIdx i).map w).sum + w x := by
      intro l
      induction l with
      | nil => intro i x h; simp at h
      | cons a l ih =>
        intro i x h
        cases i with
        | zero => simp at h; subst h; simp; omega
        | succ i =>
          have := ih i x (by simpa using h)
          simp only [List.map_cons, List.sum_cons, List.eraseIdx_cons_succ, this]
          omega
    have t1 := tot (rs.zip f) q _ (zi q hql)
    have t2 : (((rs.zip f).eraseIdx q).map w).sum = f.getD p 0 := by
      have hi : ((rs.zip f).eraseIdx q)[if p < q then p else p - 1]? = some (rd rs p, f.getD p 0) := by
        by_cases h : p < q
        · rw [if_pos h, List.getElem?_eraseIdx, if_pos h]; exact zi p hpl
        · rw [if_neg h, List.getElem?_eraseIdx, if_neg (by omega), show p - 1 + 1 = p by omega]; exact zi p hpl
      rw [sum_one hi fun j y hj hy => ?_]
      · exact wp
      · rw [List.getElem?_eraseIdx] at hy
        split at hy
        · have hjl : j < rs.length := by
            have := (List.getElem?_eq_some_iff.mp hy).1
            rw [List.length_zip] at this
            omega
          rw [zi j hjl] at hy
          cases hy
          refine wz j hjl (fun e => ?_) (by omega)
          subst e
          rw [if_pos (by assumption)] at hj
          exact hj rfl
        · have hjl : j + 1 < rs.length := by
            have := (List.getElem?_eq_some_iff.mp hy).1
            rw [List.length_zip] at this
            omega
          rw [zi (j + 1) hjl] at hy
          cases hy
          refine wz (j + 1) hjl (fun e => ?_) (by omega)
          subst e
          rw [if_neg (by omega)] at hj
          exact hj (by omega)
    show ((rs.zip f).map w).sum = _
    rw [t1, t2]
  · have fq : f.getD q 0 = 0 := by simp [List.getD, List.getElem?_eq_none (show f.length ≤ q by omega)]
    rw [split _ fun j hj h1 => wz j hj h1 (by omega), wp, fq]
    simp
end G
end
section
set_option Elab.async false
set_option linter.all false
/-! G2: the flows that the program computes (plain law). -/
namespace G
open Classical
theorem getD_set_eq {α : Type} {p : List α} {i : Nat} {x d : α} (h : i < p.length) : (p.set i x).getD i d = x := by simp [List.getD, h]
theorem getD_set_ne {α : Type} {p : List α} {i j : Nat} {x d : α} (h : i ≠ j) : (p.set i x).getD j d = p.getD j d := by simp [List.getD, List.getElem?_set_ne h]
theorem ext_getD {p q : List Int} (hl : p.length = q.length) (h : ∀ i, i < p.length → p.getD i 0 = q.getD i 0) : p = q := by
  refine List.ext_getElem hl fun i h1 h2 => ?_
  have := h i h1
  simpa [List.getD, List.getElem?_eq_getElem h1, List.getElem?_eq_getElem h2] using this
theorem getD_range {n i : Nat} (f : Nat → Int) (h : i < n) : ((List.range n).map f).getD i 0 = f i := by simp [List.getD, h]
/-! ### ends -/
def endsL (zs : List (Rd × Int)) (n : Nat) : List Int := (List.range n).map (bdZ zs)
theorem endsL_len {zs : List (Rd × Int)} {n : Nat} : (endsL zs n).length = n := by simp [endsL]
theorem bdZ_add (zs : List (Rd × Int)) (z : Rd × Int) (h : Nat) : bdZ (zs ++ [z]) h = bdZ zs h + bd1 h z := by simp [bdZ]
theorem endsL_add {zs : List (Rd × Int)} {n : Nat} {r : Rd} {x : Int} (h1 : r.1 < n) (h2 : r.2 < n) (hne : r.1 ≠ r.2) :
    endsL (zs ++ [(r, x)]) n = ((endsL zs n).set r.1 ((endsL zs n).getD r.1 0 - x)).set r.2 (((endsL zs n).set r.1 ((endsL zs n).getD r.1 0 - x)).getD r.2 0 + x) := by
  refine ext_getD (by simp [endsL]) fun i hi => ?_
  rw [endsL_len] at hi
  have e : (endsL (zs ++ [(r, x)]) n).getD i 0 = bdZ zs i + bd1 i (r, x) := by rw [endsL, getD_range _ hi, bdZ_add]
  rw [e]
  have g : ∀ j, j < n → (endsL zs n).getD j 0 = bdZ zs j := fun j hj => getD_range _ hj
  by_cases e2 : r.2 = i
  · subst e2
    rw [getD_set_eq (by rw [List.length_set, endsL_len]; exact h2), getD_set_ne hne, g _ h2]
    simp [bd1, hne]
  · rw [getD_set_ne e2]
    by_cases e1 : r.1 = i
    · subst e1
      rw [getD_set_eq (by rw [endsL_len]; exact h1), g _ h1]
      simp [bd1, Ne.symm hne]
      omega
    · rw [getD_set_ne e1, g _ hi]
      simp [bd1, e1, e2]
def endsF (n : Nat) (rs : List Rd) (f : List Int) : List Int := endsL (rs.zip f) n
theorem endsF_get {n : Nat} {rs : List Rd} {f : List Int} {h : Nat} (hh : h < n) : (endsF n rs f).getD h 0 = bdry rs f h := getD_range _ hh
def cutF (rs : List Rd) (s : List Int) : List Int := rs.map fun r => s.getD r.1 0 - s.getD r.2 0
/-! ### flow_for -/
noncomputable def farSum (n : Nat) (rs : List Rd) (p : List Int) (k : Nat) : Int := ((farF n rs k).map fun h => p.getD h 0).sum
noncomputable def flowL (n : Nat) (rs : List Rd) (p : List Int) (ks : List Nat) : List Int := ks.foldl (fun f k => f.set k (farSum n rs p k)) (List.replicate rs.length 0)
noncomputable def flowF (n : Nat) (rs : List Rd) (p : List Int) : List Int := flowL n rs p (treeF rs)
theorem flowL_len {n : Nat} {rs : List Rd} {p : List Int} (ks : List Nat) : (flowL n rs p ks).length = rs.length := by
  have : ∀ (ks : List Nat) (f : List Int), (ks.foldl (fun f k => f.set k (farSum n rs p k)) f).length = f.length := by
    intro ks
    induction ks with
    | nil => intro f; rfl
    | cons k ks ih => intro f; rw [List.foldl_cons, ih, List.length_set]
  unfold flowL
  rw [this, List.length_replicate]
theorem flowL_get {n : Nat} {rs : List Rd} {p : List Int} {j : Nat} : ∀ (ks : List Nat), (∀ k ∈ ks, k < rs.length) → (flowL n rs p ks).getD j 0 = if j ∈ ks then farSum n rs p j else 0 := by
  intro ks
  rw [← List.reverse_reverse ks]
  induction ks.reverse with
  | nil => intro _; simp [flowL, List.getD, List.getElem?_replicate]; split <;> rfl
  | cons k ks ih =>
    intro h
    rw [List.reverse_cons] at h ⊢
    have e : flowL n rs p (ks.reverse ++ [k]) = (flowL n rs p ks.reverse).set k (farSum n rs p k) := by unfold flowL; rw [List.foldl_append]; rfl
    rw [e]
    by_cases ej : k = j
    · subst ej
      rw [getD_set_eq (by rw [flowL_len]; exact h k (by simp)), if_pos (by simp)]
    · rw [getD_set_ne ej, ih fun q hq => h q (List.mem_append_left _ hq)]
      simp [Ne.symm ej]
theorem flowF_len {n : Nat} {rs : List Rd} {p : List Int} : (flowF n rs p).length = rs.length := flowL_len _
theorem flowF_get {n : Nat} {rs : List Rd} {p : List Int} {j : Nat} : (flowF n rs p).getD j 0 = if j ∈ treeF rs then farSum n rs p j else 0 := flowL_get _ fun _ h => treeF_lt h
/-! ### rings -/
def unitF (n a b : Nat) : List Int := (List.range n).map fun h => (if h = a then (1 : Int) else 0) - (if h = b then 1 else 0)
theorem unit_get {n a b h : Nat} (hh : h < n) : (unitF n a b).getD h 0 = (if h = a then (1 : Int) else 0) - (if h = b then 1 else 0) := getD_range _ hh
theorem unit_sum {n a b : Nat} (ha : a < n) (hb : b < n) : (unitF n a b).sum = 0 := by
  unfold unitF
  rw [sum_sub]
  have e : ∀ c, c < n → ((List.range n).map fun h => if h = c then (1 : Int) else 0).sum = 1 := fun c hc => by
    have := sum_ind (S := List.range n) List.nodup_range c 1
    rw [if_pos (List.mem_range.mpr hc)] at this
    refine Eq.trans ?_ this
    congr 1
    exact List.map_congr_left fun h _ => by simp [eq_comm]
  rw [e a ha, e b hb]; rfl
theorem far_unit {n a b k : Nat} {rs : List Rd} : farSum n rs (unitF n a b) k = (if a ∈ farF n rs k then (1 : Int) else 0) - (if b ∈ farF n rs k then 1 else 0) := by
  unfold farSum
  have e : ((farF n rs k).map fun h => (unitF n a b).getD h 0) = (farF n rs k).map fun h => (if a = h then (1 : Int) else 0) - (if b = h then 1 else 0) :=
    List.map_congr_left fun h hh => by
      rw [unit_get (mem_reach.mp hh).1]
      simp [eq_comm]
  have fn : (farF n rs k).Nodup := reach_nodup
  rw [e, sum_sub, sum_ind fn, sum_ind fn]
/-- the ring of a road off the tree -/
noncomputable def ringF (n : Nat) (rs : List Rd) (k : Nat) : List Int := (flowF n rs (unitF n (rd rs k).1 (rd rs k).2)).set k 1
theorem ringF_len {n : Nat} {rs : List Rd} {k : Nat} : (ringF n rs k).length = rs.length := by rw [ringF, List.length_set, flowF_len]
theorem ringF_get {n : Nat} {rs : List Rd} {k j : Nat} (hk : k < rs.length) : (ringF n rs k).getD j 0 = if j = k then 1 else if j ∈ treeF rs then (if (rd rs k).1 ∈ farF n rs j then (1 : Int) else 0) - (if (rd rs k).2 ∈ farF n rs j then 1 else 0) else 0 := by
  unfold ringF
  by_cases e : k = j
  · subst e
    rw [getD_set_eq (by rw [flowF_len]; exact hk), if_pos rfl]
  · rw [getD_set_ne e, if_neg (Ne.symm e), flowF_get, far_unit]
theorem ringF_small {n : Nat} {rs : List Rd} {k : Nat} (hk : k < rs.length) : ∀ x ∈ ringF n rs k, -1 ≤ x ∧ x ≤ 1 := fun x hx => by
  obtain ⟨j, hj, rfl⟩ := List.mem_iff_getElem.mp hx
  have : (ringF n rs k).getD j 0 = (ringF n rs k)[j] := by simp [List.getD, List.getElem?_eq_getElem hj]
  rw [← this, ringF_get hk]
  split
  · omega
  · split
    · split <;> split <;> omega
    · omega
noncomputable def offF (rs : List Rd) : List Nat := (List.range rs.length).filter fun k => decide (k ∉ treeF rs)
theorem off_lt {rs : List Rd} {k : Nat} (h : k ∈ offF rs) : k < rs.length ∧ k ∉ treeF rs := by simpa [offF] using h
noncomputable def baseF (n : Nat) (rs : List Rd) : List (List Int) := (offF rs).map (ringF n rs)
noncomputable def baseN (n : Nat) (rs : List Rd) (i : Nat) : List (List Int) := ((List.range i).filter fun k => decide (k ∉ treeF rs)).map (ringF n rs)
theorem baseN_succ {n : Nat} {rs : List Rd} {i : Nat} : baseN n rs (i + 1) = if i ∈ treeF rs then baseN n rs i else baseN n rs i ++ [ringF n rs i] := by
  unfold baseN
  rw [List.range_succ, List.filter_append, List.map_append]
  by_cases h : i ∈ treeF rs <;> simp [h]
theorem baseN_len {n : Nat} {rs : List Rd} {i : Nat} : (baseN n rs i).length ≤ i := by
  unfold baseN
  rw [List.length_map]
  exact Nat.le_trans (List.length_filter_le _ _) (by rw [List.length_range]; exact Nat.le_refl _)
theorem base_small {n : Nat} {rs : List Rd} : ∀ r ∈ baseF n rs, ∀ x ∈ r, -1 ≤ x ∧ x ≤ 1 := fun r hr => by
  obtain ⟨k, hk, rfl⟩ := List.mem_map.mp hr
  exact ringF_small (off_lt hk).1
def dotF (a b : List Int) : Int := (List.zipWith (· * ·) a b).sum
/-! ### the only one -/
/-- a flow along the tree and one more road, 1 along it, without ends: the ring -/
theorem ring_only {n : Nat} {rs : List Rd} {k : Nat} {f : List Int} (hr : ∀ r ∈ rs, r.1 < n ∧ r.2 < n) (hk : k < rs.length) (hkt : k ∉ treeF rs) (hl : f.length = rs.length) (h1 : f.getD k 0 = 1) (ho : ∀ j, j ∉ treeF rs → j ≠ k → f.getD j 0 = 0) (hb : ∀ h, h < n → bdry rs f h = 0) : f = ringF n rs k := by
  refine ext_getD (by rw [hl, ringF_len]) fun j hj => ?_
  rw [ringF_get hk]
  by_cases e : j = k
  · subst e; rw [if_pos rfl]; exact h1
  · rw [if_neg e]
    by_cases ht : j ∈ treeF rs
    · rw [if_pos ht]
      have := flow_far hr hl ht hkt ho
      have z : ((farF n rs j).map (bdry rs f)).sum = 0 := by
        have : ((farF n rs j).map (bdry rs f)) = (farF n rs j).map fun _ => (0 : Int) := List.map_congr_left fun h hh => hb h (mem_reach.mp hh).1
        rw [this]
        generalize farF n rs j = l
        induction l with
        | nil => rfl
        | cons a l ih => simpa using ih
      rw [z, h1] at this
      omega
    · rw [if_neg ht]; exact ho j ht e
end G
end
section
set_option Elab.async false
set_option linter.all false
/-! G3: labels of houses, ways along the tree, sums of rings (plain law). -/
namespace G
open Classical
/-! ### labels -/
def HomeOk (n : Nat) (rs : List Rd) (F : List Nat) (home : List Nat) : Prop := home.length = n ∧ ∀ u v, u < n → v < n → (home.getD u 0 = home.getD v 0 ↔ Conn (esAt rs F) u v)
theorem conn_nil {u v : Nat} : Conn [] u v ↔ u = v := by
  constructor
  · intro h
    induction h with
    | refl => rfl
    | fwd _ e _ => cases e
    | bwd _ e _ => cases e
  · rintro rfl; exact .refl
theorem home0 {n : Nat} {rs : List Rd} : HomeOk n rs [] (List.range n) := by
  refine ⟨List.length_range, fun u v hu hv => ?_⟩
  rw [show esAt rs [] = [] from rfl, conn_nil]
  simp [List.getD, hu, hv]
theorem home_step {n : Nat} {rs : List Rd} {F : List Nat} {home : List Nat} {k : Nat} (h : HomeOk n rs F home) (ha : (rd rs k).1 < n) (hb : (rd rs k).2 < n) (hne : home.getD (rd rs k).1 0 ≠ home.getD (rd rs k).2 0) :
    HomeOk n rs (F ++ [k]) (home.map fun o => if o = home.getD (rd rs k).2 0 then home.getD (rd rs k).1 0 else o) := by
  obtain ⟨hl, hc⟩ := h
  refine ⟨by rw [List.length_map]; exact hl, fun u v hu hv => ?_⟩
  have g : ∀ w, w < n → (home.map fun o => if o = home.getD (rd rs k).2 0 then home.getD (rd rs k).1 0 else o).getD w 0 = if home.getD w 0 = home.getD (rd rs k).2 0 then home.getD (rd rs k).1 0 else home.getD w 0 := fun w hw => by
    simp [List.getD, List.getElem?_eq_getElem (show w < home.length by omega)]
  rw [g u hu, g v hv, esAt, List.map_append]
  have e : [k].map (rd rs) = [((rd rs k).1, (rd rs k).2)] := rfl
  rw [e, conn_add_iff, ← esAt, ← hc u v hu hv, ← hc u _ hu ha, ← hc _ v hb hv, ← hc u _ hu hb, ← hc _ v ha hv]
  generalize home.getD u 0 = hu', home.getD v 0 = hv', home.getD (rd rs k).1 0 = A, home.getD (rd rs k).2 0 = B at hne ⊢
  constructor
  · intro h
    split at h <;> split at h <;> omega
  · intro h
    split <;> split <;> omega
/-! ### ways -/
theorem bdry_set {rs : List Rd} {f : List Int} {k : Nat} {x : Int} {h : Nat} (hl : f.length = rs.length) (hk : k < rs.length) : bdry rs (f.set k x) h = bdry rs f h + ((if (rd rs k).2 = h then x - f.getD k 0 else 0) - (if (rd rs k).1 = h then x - f.getD k 0 else 0)) := by
  unfold bdry bdZ
  induction rs generalizing f k with
  | nil => simp at hk
  | cons r rs ih =>
    cases f with
    | nil => simp at hl
    | cons y f =>
      cases k with
      | zero =>
        simp only [List.set_cons_zero, List.zip_cons_cons, List.map_cons, List.sum_cons, bd1, rd, List.getD_cons_zero]
        repeat' split
        all_goals omega
      | succ k =>
        have := ih (f := f) (k := k) (by simpa using hl) (by simpa using hk)
        simp only [List.set_cons_succ, List.zip_cons_cons, List.map_cons, List.sum_cons, rd, List.getD_cons_succ] at this ⊢
        rw [this]
        omega
structure WayOk (rs : List Rd) (s t : Nat) (w : List Int) : Prop where
  len : w.length = rs.length
  sup : ∀ j, w.getD j 0 ≠ 0 → j ∈ treeF rs
  bd : ∀ h, bdry rs w h = (if h = t then (1 : Int) else 0) - (if h = s then 1 else 0)
/-- what is known of the ways from s -/
structure Ways (n : Nat) (rs : List Rd) (s : Nat) (K : List (Nat × List Int)) : Prop where
  nd : (K.map (·.1)).Nodup
  lt : ∀ p ∈ K, p.1 < n
  src : s ∈ K.map (·.1)
  way : ∀ p ∈ K, WayOk rs s p.1 p.2
  ends : ∀ p ∈ K, ∀ j, p.2.getD j 0 ≠ 0 → (rd rs j).1 ∈ K.map (·.1) ∧ (rd rs j).2 ∈ K.map (·.1)
theorem bdry_zero {rs : List Rd} {h : Nat} : bdry rs (List.replicate rs.length 0) h = 0 := by
  unfold bdry bdZ
  induction rs with
  | nil => rfl
  | cons r rs ih => simp only [List.length_cons, List.replicate_succ, List.zip_cons_cons, List.map_cons, List.sum_cons, ih, bd1]; split <;> split <;> rfl
theorem getD_rep0 {m j : Nat} : (List.replicate m (0 : Int)).getD j 0 = 0 := by
  simp [List.getD, List.getElem?_replicate]; split <;> rfl
theorem ways0 {n : Nat} {rs : List Rd} {s : Nat} (hs : s < n) : Ways n rs s [(s, List.replicate rs.length 0)] where
  nd := by simp
  lt := by simpa using hs
  src := by simp
  way := fun p hp => by
    rw [List.mem_singleton] at hp
    subst hp
    exact ⟨by simp, fun j hj => absurd getD_rep0 hj, fun h => by rw [bdry_zero]; omega⟩
  ends := fun p hp j hj => by
    rw [List.mem_singleton] at hp
    subst hp
    exact absurd getD_rep0 hj
/-- one road further: from v to o -/
theorem ways_add {n : Nat} {rs : List Rd} {s : Nat} {K : List (Nat × List Int)} (h : Ways n rs s K) {k v o : Nat} {w : List Int} {x : Int} (hk : k ∈ treeF rs) (hw : (v, w) ∈ K) (ho : o ∉ K.map (·.1)) (hon : o < n)
    (hx : (v = (rd rs k).1 ∧ o = (rd rs k).2 ∧ x = 1) ∨ (v = (rd rs k).2 ∧ o = (rd rs k).1 ∧ x = -1)) : Ways n rs s (K ++ [(o, w.set k x)]) := by
  have hkl := treeF_lt hk
  have W := h.way _ hw
  have hv : v ∈ K.map (·.1) := List.mem_map_of_mem (f := (·.1)) hw
  have z : w.getD k 0 = 0 := by
    refine Classical.byContradiction fun hne => ?_
    have := h.ends _ hw k hne
    rcases hx with ⟨_, e, _⟩ | ⟨_, e, _⟩
    · exact ho (e ▸ this.2)
    · exact ho (e ▸ this.1)
  have mem : ∀ q, q ∈ (K ++ [(o, w.set k x)]).map (·.1) ↔ q ∈ K.map (·.1) ∨ q = o := fun q => by simp
  have nz : ∀ j, (w.set k x).getD j 0 ≠ 0 → j = k ∨ w.getD j 0 ≠ 0 := fun j hj => by
    by_cases e : k = j
    · exact .inl e.symm
    · rw [getD_set_ne e] at hj; exact .inr hj
  refine ⟨?_, fun p hp => ?_, (mem s).mpr (.inl h.src), fun p hp => ?_, fun p hp j hj => ?_⟩
  · rw [List.map_append, List.nodup_append]  -- so
    exact ⟨h.nd, by simp, fun a ha b hb e => by simp at hb; exact ho (hb ▸ e ▸ ha)⟩
  · rcases List.mem_append.mp hp with hp | hp  -- so
    · exact h.lt p hp
    · rw [List.mem_singleton] at hp; subst hp; exact hon
  · rcases List.mem_append.mp hp with hp | hp  -- so
    · exact h.way p hp
    · rw [List.mem_singleton] at hp
      subst hp
      refine ⟨by rw [List.length_set]; exact W.len, fun j hj => ?_, fun q => ?_⟩
      · rcases nz j hj with rfl | hj
        · exact hk
        · exact W.sup j hj
      · show bdry rs (w.set k x) q = (if q = o then (1 : Int) else 0) - (if q = s then 1 else 0)
        have hb : bdry rs w q = (if q = v then (1 : Int) else 0) - (if q = s then 1 else 0) := W.bd q
        rw [bdry_set W.len hkl, hb, z]
        rcases hx with ⟨e1, e2, e3⟩ | ⟨e1, e2, e3⟩
        · rw [← e1, ← e2, e3]
          simp only [eq_comm (a := q)]
          repeat' split
          all_goals omega
        · rw [← e1, ← e2, e3]
          simp only [eq_comm (a := q)]
          repeat' split
          all_goals omega
  · rcases List.mem_append.mp hp with hp | hp  -- so
    · have := h.ends p hp j hj
      exact ⟨(mem _).mpr (.inl this.1), (mem _).mpr (.inl this.2)⟩
    · rw [List.mem_singleton] at hp
      subst hp
      rcases nz j hj with rfl | hj
      · rcases hx with ⟨e1, e2, e3⟩ | ⟨e1, e2, e3⟩
        · exact ⟨(mem _).mpr (.inl (e1 ▸ hv)), (mem _).mpr (.inr e2.symm)⟩
        · exact ⟨(mem _).mpr (.inr e2.symm), (mem _).mpr (.inl (e1 ▸ hv))⟩
      · have := h.ends _ hw j hj
        exact ⟨(mem _).mpr (.inl this.1), (mem _).mpr (.inl this.2)⟩
/-- a way back over a road off the tree: the ring -/
theorem way_ring {n : Nat} {rs : List Rd} {k : Nat} {w : List Int} (hr : ∀ r ∈ rs, r.1 < n ∧ r.2 < n) (hk : k < rs.length) (hkt : k ∉ treeF rs) (W : WayOk rs (rd rs k).2 (rd rs k).1 w) : w.set k 1 = ringF n rs k ∧ ∀ h, bdry rs (w.set k 1) h = 0 := by
  have z : w.getD k 0 = 0 := Classical.byContradiction fun hne => hkt (W.sup k hne)
  have hb : ∀ h, bdry rs (w.set k 1) h = 0 := fun h => by
    rw [bdry_set W.len hk, W.bd h, z]
    simp only [eq_comm (a := h)]
    repeat' split
    all_goals omega
  exact ⟨ring_only hr hk hkt (by rw [List.length_set]; exact W.len) (getD_set_eq (by rw [W.len]; exact hk)) (fun j hj hne => by
    rw [getD_set_ne (Ne.symm hne)]
    exact Classical.byContradiction fun h => hj (W.sup j h)) fun h _ => hb h, hb⟩
/-! ### sums -/
def addF (x : Int) (f g : List Int) : List Int := List.zipWith (fun o c => o + x * c) f g
theorem addF_len {x : Int} {f g : List Int} (h : f.length = g.length) : (addF x f g).length = f.length := by simp [addF, h]
theorem addF_get {x : Int} {f g : List Int} {j : Nat} (h : f.length = g.length) : (addF x f g).getD j 0 = f.getD j 0 + x * g.getD j 0 := by
  by_cases hj : j < f.length
  · simp [addF, List.getD, List.getElem?_zipWith, List.getElem?_eq_getElem hj, List.getElem?_eq_getElem (show j < g.length by omega)]
  · simp [addF, List.getD, List.getElem?_zipWith, List.getElem?_eq_none (show f.length ≤ j by omega), List.getElem?_eq_none (show g.length ≤ j by omega)]
theorem bdry_add {x : Int} {h : Nat} : ∀ {rs : List Rd} {f g : List Int}, f.length = rs.length → g.length = rs.length → bdry rs (addF x f g) h = bdry rs f h + x * bdry rs g h
  | [], f, g, _, _ => by simp [bdry, bdZ]
  | r :: rs, [], g, hf, _ => by simp at hf
  | r :: rs, _ :: _, [], _, hg => by simp at hg
  | r :: rs, a :: f, b :: g, hf, hg => by
    have ih := bdry_add (x := x) (h := h) (rs := rs) (f := f) (g := g) (by simpa using hf) (by simpa using hg)
    unfold bdry bdZ addF at ih ⊢
    simp only [List.zipWith_cons_cons, List.zip_cons_cons, List.map_cons, List.sum_cons, ih, bd1, Int.mul_add, Int.mul_sub]
    repeat' split
    all_goals omega
/-- rings, so many times each -/
noncomputable def combF (n : Nat) (rs : List Rd) (l : List (Nat × Int)) : List Int := l.foldl (fun f p => addF p.2 f (ringF n rs p.1)) (List.replicate rs.length 0)
theorem combF_add {n : Nat} {rs : List Rd} (l : List (Nat × Int)) (p : Nat × Int) : combF n rs (l ++ [p]) = addF p.2 (combF n rs l) (ringF n rs p.1) := by unfold combF; rw [List.foldl_append]; rfl
theorem combF_len {n : Nat} {rs : List Rd} (l : List (Nat × Int)) : (combF n rs l).length = rs.length := by
  rw [← List.reverse_reverse l]
  induction l.reverse with
  | nil => simp [combF]
  | cons p l ih => rw [List.reverse_cons, combF_add, addF_len (by rw [ih, ringF_len]), ih]
theorem combF_bd {n : Nat} {rs : List Rd} {h : Nat} (l : List (Nat × Int)) (hb : ∀ p ∈ l, bdry rs (ringF n rs p.1) h = 0) : bdry rs (combF n rs l) h = 0 := by
  rw [← List.reverse_reverse l] at hb ⊢
  generalize l.reverse = m at hb ⊢
  clear l
  induction m with
  | nil => exact bdry_zero
  | cons p l ih =>
    rw [List.reverse_cons] at hb ⊢
    rw [combF_add, bdry_add (combF_len _) ringF_len, ih fun q hq => hb q (List.mem_append_left _ hq), hb p (by simp)]
    simp
theorem combF_off {n : Nat} {rs : List Rd} {j : Nat} (hj : j < rs.length) (hjt : j ∉ treeF rs) (l : List (Nat × Int)) (hl : ∀ p ∈ l, p.1 < rs.length) : (combF n rs l).getD j 0 = (l.map fun p => if p.1 = j then p.2 else 0).sum := by
  rw [← List.reverse_reverse l] at hl ⊢
  generalize l.reverse = m at hl ⊢
  clear l
  induction m with
  | nil => exact getD_rep0
  | cons p l ih =>
    rw [List.reverse_cons] at hl ⊢
    rw [combF_add, addF_get (by rw [combF_len, ringF_len]), ih fun q hq => hl q (List.mem_append_left _ hq), ringF_get (hl p (by simp)), if_neg hjt, List.map_append, List.sum_append]
    simp only [List.map_cons, List.map_nil, List.sum_cons, List.sum_nil]  -- so
    by_cases e : p.1 = j
    · rw [if_pos e.symm, if_pos e]; omega
    · rw [if_neg (Ne.symm e), if_neg e]; omega
/-- cuts are at right angles to flows without ends -/
theorem cut_dot {n : Nat} {rs : List Rd} {s f : List Int} (hr : ∀ r ∈ rs, r.1 < n ∧ r.2 < n) (hl : f.length = rs.length) (hb : ∀ h, h < n → bdry rs f h = 0) : dotF (cutF rs s) f = 0 := by
  have key : ∀ (rs : List Rd) (f : List Int), (∀ r ∈ rs, r.1 < n ∧ r.2 < n) → f.length = rs.length → dotF (cutF rs s) f = - ((List.range n).map fun h => s.getD h 0 * bdry rs f h).sum := by
    intro rs
    induction rs with
    | nil =>
      intro f _ hf
      have : f = [] := List.length_eq_zero_iff.mp hf
      subst this
      have : ((List.range n).map fun h => s.getD h 0 * bdry [] [] h) = (List.range n).map fun _ => (0 : Int) := List.map_congr_left fun h _ => by simp [bdry, bdZ]
      rw [this]
      generalize List.range n = l
      have : (l.map fun _ => (0 : Int)).sum = 0 := by
        induction l with
        | nil => rfl
        | cons a l ih => simpa using ih
      rw [this]
      simp [dotF, cutF]
    | cons r rs ih =>
      intro f hr hf
      cases f with
      | nil => simp at hf
      | cons x f =>
        have h1 := ih f (fun q hq => hr q (by simp [hq])) (by simpa using hf)
        have hrn := hr r (by simp)
        have e1 : ((List.range n).map fun h => s.getD h 0 * bdry (r :: rs) (x :: f) h) = (List.range n).map fun h => ((if r.2 = h then s.getD r.2 0 * x else 0) - (if r.1 = h then s.getD r.1 0 * x else 0)) + s.getD h 0 * bdry rs f h := List.map_congr_left fun h _ => by
          show s.getD h 0 * (bd1 h (r, x) + bdry rs f h) = _
          rw [Int.mul_add]
          congr 1
          simp only [bd1, Int.mul_sub]
          congr 1
          · split
            · rename_i e; rw [← e]
            · simp
          · split
            · rename_i e; rw [← e]
            · simp
        rw [e1, sum_add, sum_sub, sum_ind List.nodup_range, sum_ind List.nodup_range, if_pos (List.mem_range.mpr hrn.2), if_pos (List.mem_range.mpr hrn.1)]
        have e2 : dotF (cutF (r :: rs) s) (x :: f) = (s.getD r.1 0 - s.getD r.2 0) * x + dotF (cutF rs s) f := by simp [dotF, cutF]
        rw [e2, h1, Int.sub_mul]
        omega
  rw [key rs f hr hl]
  have : ((List.range n).map fun h => s.getD h 0 * bdry rs f h) = (List.range n).map fun _ => (0 : Int) := List.map_congr_left fun h hh => by rw [hb h (List.mem_range.mp hh)]; simp
  rw [this]
  generalize List.range n = l
  induction l with
  | nil => rfl
  | cons a l ih => simpa using ih
end G
end
section
set_option Elab.async false
set_option linter.all false
/-! G4: a flow for each purse of money 0 (plain law). -/
namespace G
open Classical
theorem zero_way {rs : List Rd} {s : Nat} : WayOk rs s s (List.replicate rs.length 0) := ⟨by simp, fun j hj => absurd getD_rep0 hj, fun h => by rw [bdry_zero]; omega⟩
/-- one road of the tree further -/
theorem way_step {rs : List Rd} {s v o k : Nat} {w : List Int} {x : Int} (W : WayOk rs s v w) (hk : k ∈ treeF rs) (hx : (v = (rd rs k).1 ∧ o = (rd rs k).2 ∧ x = 1) ∨ (v = (rd rs k).2 ∧ o = (rd rs k).1 ∧ x = -1)) : ∃ w', WayOk rs s o w' := by
  have hkl := treeF_lt hk
  refine ⟨w.set k (w.getD k 0 + x), by rw [List.length_set]; exact W.len, fun j hj => ?_, fun h => ?_⟩
  · by_cases e : k = j
    · exact e ▸ hk
    · rw [getD_set_ne e] at hj; exact W.sup j hj
  · rw [bdry_set W.len hkl, W.bd h]
    have e : w.getD k 0 + x - w.getD k 0 = x := by omega
    rw [e]
    rcases hx with ⟨e1, e2, e3⟩ | ⟨e1, e2, e3⟩
    · rw [← e1, ← e2, e3]
      simp only [eq_comm (a := h)]
      repeat' split
      all_goals omega
    · rw [← e1, ← e2, e3]
      simp only [eq_comm (a := h)]
      repeat' split
      all_goals omega
theorem way_ex {rs : List Rd} {s v : Nat} (h : Conn (esAt rs (treeF rs)) s v) : ∃ w, WayOk rs s v w := by
  induction h with
  | refl => exact ⟨_, zero_way⟩
  | fwd _ e ih =>
    obtain ⟨w, W⟩ := ih
    obtain ⟨k, hk, e⟩ := List.mem_map.mp e
    exact way_step W hk (.inl ⟨by rw [e], by rw [e], rfl⟩)
  | bwd _ e ih =>
    obtain ⟨w, W⟩ := ih
    obtain ⟨k, hk, e⟩ := List.mem_map.mp e
    exact way_step W hk (.inr ⟨by rw [e], by rw [e], rfl⟩)
theorem flow_ex {n : Nat} {rs : List Rd} (p : List Int) (hc : ∀ v, v < n → Conn rs 0 v) : ∀ i, i ≤ n → ∃ f : List Int, f.length = rs.length ∧ (∀ j, j ∉ treeF rs → f.getD j 0 = 0) ∧ ∀ h, bdry rs f h = ((List.range i).map fun v => p.getD v 0 * ((if h = v then (1 : Int) else 0) - (if h = 0 then 1 else 0))).sum
  | 0, _ => ⟨List.replicate rs.length 0, by simp, fun j _ => getD_rep0, fun h => by rw [bdry_zero]; rfl⟩
  | i + 1, hi => by
    obtain ⟨f, hl, hs, hb⟩ := flow_ex p hc i (by omega)
    obtain ⟨w, W⟩ := way_ex (treeF_conn (hc i (by omega)))
    refine ⟨addF (p.getD i 0) f w, by rw [addF_len (by rw [hl, W.len]), hl], fun j hj => ?_, fun h => ?_⟩
    · rw [addF_get (by rw [hl, W.len]), hs j hj]
      have : w.getD j 0 = 0 := Classical.byContradiction fun hne => hj (W.sup j hne)
      rw [this]; simp
    · rw [bdry_add hl W.len, hb h, W.bd h, List.range_succ, List.map_append, List.sum_append]
      simp
theorem sum_pick {n : Nat} {p : List Int} (hl : p.length = n) {h : Nat} (hh : h < n) : ((List.range n).map fun v => p.getD v 0 * ((if h = v then (1 : Int) else 0) - (if h = 0 then 1 else 0))).sum = p.getD h 0 - (if h = 0 then p.sum else 0) := by
  have e1 : ((List.range n).map fun v => p.getD v 0 * ((if h = v then (1 : Int) else 0) - (if h = 0 then 1 else 0))) = (List.range n).map fun v => (if h = v then p.getD h 0 else 0) - (if h = 0 then p.getD v 0 else 0) := List.map_congr_left fun v _ => by
    rw [Int.mul_sub]
    congr 1
    · split
      · rename_i e; rw [e]; simp
      · simp
    · split <;> simp
  rw [e1, sum_sub]
  congr 1
  · have := sum_ind (S := List.range n) List.nodup_range h (p.getD h 0)
    rw [if_pos (List.mem_range.mpr hh)] at this
    exact this
  · split
    · congr 1
      refine List.ext_getElem (by simp [hl]) fun i h1 h2 => ?_
      simp [List.getD, List.getElem?_eq_getElem h2]
    · generalize List.range n = l
      induction l with
      | nil => rfl
      | cons a l ih => simpa using ih
/-- flow_for's ends are the purse -/
theorem flowF_ends {n : Nat} {rs : List Rd} {p : List Int} (hr : ∀ r ∈ rs, r.1 < n ∧ r.2 < n) (hc : ∀ v, v < n → Conn rs 0 v) (hl : p.length = n) (h0 : p.sum = 0) {h : Nat} (hh : h < n) : bdry rs (flowF n rs p) h = p.getD h 0 := by
  obtain ⟨f, fl, fs, fb⟩ := flow_ex (rs := rs) p hc n (Nat.le_refl n)
  have fb' : ∀ h, h < n → bdry rs f h = p.getD h 0 := fun h hh => by
    rw [fb h, sum_pick hl hh, h0]
    split <;> omega
  have e : f = flowF n rs p := by
    refine ext_getD (by rw [fl, flowF_len]) fun j hj => ?_
    rw [flowF_get]
    by_cases ht : j ∈ treeF rs
    · rw [if_pos ht]
      have hq : rs.length ∉ treeF rs := fun h => by have := treeF_lt h; omega
      have := flow_far hr fl ht hq fun j hj _ => fs j hj
      have fq : f.getD rs.length 0 = 0 := by simp [List.getD, List.getElem?_eq_none (show f.length ≤ rs.length by omega)]
      rw [fq] at this
      have e2 : ((farF n rs j).map (bdry rs f)) = (farF n rs j).map fun h => p.getD h 0 := List.map_congr_left fun h hm => fb' h (mem_reach.mp hm).1
      rw [e2] at this
      unfold farSum
      rw [this]
      simp
    · rw [if_neg ht]; exact fs j ht
  rw [← e]
  exact fb' h hh
theorem endsF_flowF {n : Nat} {rs : List Rd} {p : List Int} (hr : ∀ r ∈ rs, r.1 < n ∧ r.2 < n) (hc : ∀ v, v < n → Conn rs 0 v) (hl : p.length = n) (h0 : p.sum = 0) : endsF n rs (flowF n rs p) = p := by
  refine ext_getD (by simp [endsF, endsL, hl]) fun i hi => ?_
  have hi' : i < n := by simpa [endsF, endsL] using hi
  rw [endsF_get hi']
  exact flowF_ends hr hc hl h0 hi'
/-- ends have money 0 -/
theorem ends_sum {n : Nat} {rs : List Rd} {f : List Int} (hr : ∀ r ∈ rs, r.1 < n ∧ r.2 < n) : (endsF n rs f).sum = 0 := by
  have := sum_bd (S := List.range n) List.nodup_range (rs.zip f)
  show ((List.range n).map (bdZ (rs.zip f))).sum = 0
  rw [this]
  have : ((rs.zip f).map fun z => (if z.1.2 ∈ List.range n then z.2 else 0) - (if z.1.1 ∈ List.range n then z.2 else 0)) = (rs.zip f).map fun _ => (0 : Int) := List.map_congr_left fun z hz => by
    have := hr z.1 (List.of_mem_zip hz).1
    rw [if_pos (List.mem_range.mpr this.2), if_pos (List.mem_range.mpr this.1)]
    omega
  rw [this]
  generalize rs.zip f = l
  induction l with
  | nil => rfl
  | cons a l ih => simpa using ih
end G
end
section
set_option Elab.async false
set_option linter.all false
set_option maxRecDepth 100000
set_option maxHeartbeats 3900000
/-! T1: towns, purses, roads, decks as data. -/
namespace TW
open PySem PySem.Spec L2 DL G
abbrev rowD (p : List Int) : D := .tup (p.map D.int)
abbrev roadD (r : Nat × Nat) : D := .tup [.int (r.1 : Nat), .int (r.2 : Nat)]
abbrev townD (n : Nat) (rs : List (Nat × Nat)) : D := .tup [.int (n : Nat), .tup (rs.map roadD)]
abbrev natsD (ps : List Nat) : List D := ps.map fun k => D.int (k : Nat)
def Grown (n : Nat) (rs : List (Nat × Nat)) : Prop := ∀ h, 0 < h → h < n → ∃ x, x < h ∧ (x, h) ∈ rs
/-- towns as laws draw them -/
structure Tw (n : Nat) (rs : List (Nat × Nat)) : Prop where
  pos : 0 < n
  le : n ≤ 8
  few : rs.length ≤ 16
  grown : Grown n rs
  lt : ∀ r ∈ rs, r.1 < r.2 ∧ r.2 < n
  srt : rs.Pairwise fun a b => a.1 < b.1 ∨ (a.1 = b.1 ∧ a.2 ≤ b.2)
theorem Tw.ok {n : Nat} {rs : List (Nat × Nat)} (h : Tw n rs) : ∀ r ∈ rs, r.1 < n ∧ r.2 < n := fun r hr => by have := h.lt r hr; omega
theorem Tw.conn {n : Nat} {rs : List (Nat × Nat)} (h : Tw n rs) : ∀ v, v < n → Conn rs 0 v := by
  intro v
  induction v using Nat.strongRecOn with
  | _ v ih =>
    intro hv
    rcases Nat.eq_zero_or_pos v with rfl | hp
    · exact .refl
    · obtain ⟨x, hx, hm⟩ := h.grown v hp hv
      exact (ih x hx (by omega)).fwd hm
/-- lists or tuples of data -/
def SeqD (d : D) (xs : List D) : Prop := d = .lst xs ∨ d = .tup xs
theorem look_cons {k k' : Key} {v : D} {kvs : List (Key × D)} : look ((k', v) :: kvs) k = if k' = k then some v else look kvs k := by
  unfold look
  rw [List.find?_cons]
  by_cases h : k' = k
  · simp [h]
  · simp [h]
/-- a dict whose keys are ints, all values alike -/
def keysD (ks : List Nat) : D := .dK (ks.map fun k => (.inl ((k : Nat) : Int), D.bl true))
theorem look_keys {ks : List Nat} {h : Nat} : (look (ks.map fun k => ((.inl ((k : Nat) : Int) : Key), D.bl true)) (.inl (h : Int))).isSome = decide (h ∈ ks) := by
  induction ks with
  | nil => rfl
  | cons k ks ih =>
    rw [List.map_cons, look_cons]
    by_cases e : k = h
    · subst e; simp
    · rw [if_neg (fun q => e (by injection q with q; omega)), ih]
      simp [Ne.symm e]
theorem put_keys {ks : List Nat} {h : Nat} (hn : h ∉ ks) : putD (ks.map fun k => ((.inl ((k : Nat) : Int) : Key), D.bl true)) (.inl (h : Int)) (.bl true) = (ks ++ [h]).map fun k => ((.inl ((k : Nat) : Int) : Key), D.bl true) := by
  unfold putD
  have e : ((ks.map fun k => ((.inl ((k : Nat) : Int) : Key), D.bl true)).any fun q => decide (q.1 = .inl (h : Int))) = false := by
    rw [Bool.eq_false_iff]
    intro h1
    obtain ⟨q, hq, h2⟩ := List.any_eq_true.mp h1
    obtain ⟨k, hk, rfl⟩ := List.mem_map.mp hq
    have h3 : (Sum.inl ((k : Nat) : Int) : Key) = .inl (h : Int) := of_decide_eq_true h2
    injection h3 with h3
    have : k = h := by omega
    exact hn (this ▸ hk)
  rw [e]
  simp
theorem in_two {x a b : Int} : (pys [.int a, .int b]).any (fun z => PyData.eqv z (py (.int x))) = (decide (a = x) || decide (b = x)) := by
  simp only [pys, List.any_cons, List.any_nil, Bool.or_false, v_ii]
end TW
namespace TW
open PySem PySem.Spec L2 DL G
theorem sub_len : ∀ {ks L : List Nat}, ks.Nodup → (∀ k ∈ ks, k ∈ L) → ks.length ≤ L.length
  | [], _, _, _ => Nat.zero_le _  -- so
  | k :: ks, L, hn, hs => by
    rw [List.nodup_cons] at hn
    have hk := hs k (by simp)
    have := sub_len (ks := ks) (L := L.erase k) hn.2 fun j hj => (List.mem_erase_of_ne (fun e : j = k => hn.1 (by rw [← e]; exact hj))).mpr (hs j (by simp [hj]))
    rw [List.length_erase_of_mem hk] at this
    have := List.length_pos_of_mem hk  -- so
    simp only [List.length_cons]
    omega
theorem lt_len {n : Nat} {ks : List Nat} (hn : ks.Nodup) (h : ∀ k ∈ ks, k < n) : ks.length ≤ n := by
  have := sub_len (L := List.range n) hn fun k hk => List.mem_range.mpr (h k hk)
  rwa [List.length_range] at this
theorem plain_ints : ∀ gs : List Int, plains (gs.map D.int) = true
  | [] => rfl
  | g :: gs => by
    have := plain_ints gs
    simp [plains, DL.plain, this]
theorem pys_ints : ∀ gs : List Int, pys (gs.map D.int) = gs.map PyData.int
  | [] => rfl
  | g :: gs => by
    have := pys_ints gs
    simp [pys, py, this]
theorem eq_ints (gs : List Int) : eqOk (.lst (gs.map D.int)) (.lst []) = true := by
  unfold eqOk
  have h1 : DL.plain (.lst (gs.map D.int)) = true := plain_ints gs
  have h2 : SeqAt.shaped (py (.lst (gs.map D.int))) = true := by
    show SeqAt.shaped (.list (pys (gs.map D.int))) = true
    rw [pys_ints]; exact shaped_ints gs
  have h3 : DL.plain (.lst []) = true := rfl
  have h4 : SeqAt.shaped (py (.lst [])) = true := rfl
  rw [h1, h2, h3, h4]; rfl
theorem nats_ints (ws : List Nat) : natsD ws = (ws.map fun k => ((k : Nat) : Int)).map D.int := by rw [List.map_map]; rfl
theorem eq_nats (ws : List Nat) : eqOk (.lst (natsD ws)) (.lst []) = true := by rw [nats_ints]; exact eq_ints _
end TW
namespace DL
open PySem PySem.Spec L2
theorem whl_inv {T : Txt} {c : RE} {body : List RS} {env : Env'} {n : Env' → Prop} {r : QE} {x : QX} (I : Nat → Env' → Prop) (h0 : ∃ m, I m env) (hs : ∀ m e, I m e → wpE T c e (fun s e1 => tstQ s e1 fun t => if t = true then wpSs T body e1 ⟨fun e2 => ∃ m', m' < m ∧ I m' e2, r, x⟩ else n e1) x) : wpSs T [.whl c body] env ⟨n, r, x⟩ := by
  rw [k_s1, k_whl]
  simp only [k_s0]
  exact ⟨I, h0, hs⟩
end DL
namespace DL
open PySem PySem.Spec L2
theorem for_mono {T : Txt} {tgt : Tg} {body : List RS} {rt : QE} {ex : QX} {ds : List D} {env : Env'} {K K' : Env' → Prop} {h1 : Hd fun e N => wpSs T body e ⟨N, rt, ex⟩} {h2 : Hd K} {h3 : Hd K'} (h : forW tgt (hold (fun e N => wpSs T body e ⟨N, rt, ex⟩) h1) ds env (hold K h2)) (k : ∀ e, K e → K' e) : forW tgt (hold (fun e N => wpSs T body e ⟨N, rt, ex⟩) h1) ds env (hold K' h3) := by
  have go : ∀ (ds : List D) (env : Env'), forW tgt (fun e N => wpSs T body e ⟨N, rt, ex⟩) ds env K → forW tgt (fun e N => wpSs T body e ⟨N, rt, ex⟩) ds env K' := by
    intro ds
    induction ds with
    | nil => intro env h; exact k _ h
    | cons d r ih =>
      intro env h
      unfold forW at h ⊢
      split at h
      · exact wpSs_mono (K' := ⟨_, rt, ex⟩) _ _ h ⟨fun e q => ih e q, fun _ _ q => q, fun _ _ q => q⟩
      · exact h.elim
  exact go ds env h
end DL
namespace TW
open PySem PySem.Spec L2 DL G
theorem plain_nats (L : List Nat) : plains (natsD L) = true := by rw [nats_ints]; exact plain_ints _
theorem shaped_nats (L : List Nat) : SeqAt.shaped (.list (pys (natsD L))) = true := by rw [nats_ints, pys_ints]; exact shaped_ints _
theorem any_nats (L : List Nat) (v : Nat) : ((pys (natsD L)).any fun z => PyData.eqv z (py (.int (v : Nat)))) = decide (v ∈ L) := by
  induction L with
  | nil => rfl
  | cons a L ih =>
    have e : natsD (a :: L) = .int (a : Nat) :: natsD L := rfl
    rw [e]
    simp only [pys, List.any_cons, ih, v_ii]
    rw [Bool.eq_iff_iff]
    simp only [Bool.or_eq_true, decide_eq_true_eq, List.mem_cons]
    constructor
    · rintro (h | h)
      · exact .inl (by omega)
      · exact .inr h
    · rintro (h | h)
      · exact .inl (by omega)
      · exact .inr h
theorem flat_nats (L : List Nat) : (natsD L).all pIn.flatD = true := by
  rw [List.all_eq_true]
  intro x hx
  obtain ⟨k, _, rfl⟩ := List.mem_map.mp hx
  rfl
theorem in_nats {L : List Nat} {v : Nat} {P : D → Prop} : pw .in_ [.int (v : Nat), .lst (natsD L)] P = P (.bl (decide (v ∈ L))) := by
  rw [r_in]
  simp only [plain_nats, shaped_nats, any_nats]
  exact propext ⟨fun h => h.2.2.2.2, fun h => ⟨rfl, trivial, rfl, trivial, h⟩⟩
theorem nin_nats {L : List Nat} {v : Nat} {P : D → Prop} : pw .nin [.int (v : Nat), .lst (natsD L)] P = P (.bl (!decide (v ∈ L))) := by
  rw [r_nin]
  simp only [plain_nats, shaped_nats, any_nats]
  exact propext ⟨fun h => h.2.2.2.2, fun h => ⟨rfl, trivial, rfl, trivial, h⟩⟩
theorem in_natsT {L : List Nat} {v : Nat} {P : D → Prop} : pw .in_ [.int (v : Nat), .tup (natsD L)] P = P (.bl (decide (v ∈ L))) := by
  rw [r_in]
  simp only [flat_nats, any_nats]
  exact propext ⟨fun h => h.2.2, fun h => ⟨rfl, trivial, h⟩⟩
theorem nin_natsT {L : List Nat} {v : Nat} {P : D → Prop} : pw .nin [.int (v : Nat), .tup (natsD L)] P = P (.bl (!decide (v ∈ L))) := by
  rw [r_nin]
  simp only [flat_nats, any_nats]
  exact propext ⟨fun h => h.2.2, fun h => ⟨rfl, trivial, h⟩⟩
/-- a road by its place -/
theorem atI_road {rs : List (Nat × Nat)} {k : Nat} (h : k < rs.length) : atI (rs.map roadD) (k : Int) = some (roadD (rd rs k)) := by
  rw [atI_nat (by rw [List.length_map]; exact h)]
  simp [List.getD, List.getElem?_eq_getElem h]  -- so
/-- a number of a list of such -/
def natOf : D → Nat
  | .int i => i.toNat
  | _ => 0
def roadAt (rs : List (Nat × Nat)) (d : D) : D := roadD (rd rs (natOf d))
theorem roads_at {rs : List (Nat × Nat)} (ps : List Nat) : (natsD ps).map (roadAt rs) = (esAt rs ps).map roadD := by
  rw [List.map_map, List.map_map]  -- so
  exact List.map_congr_left fun k _ => by simp [roadAt, natOf]
def rowAt (p : List Int) (d : D) : D := .int (p.getD (natOf d) 0)
theorem ints_at {p : List Int} (ps : List Nat) : (natsD ps).map (rowAt p) = (ps.map fun h => p.getD h 0).map D.int := by
  rw [List.map_map, List.map_map]  -- so
  exact List.map_congr_left fun k _ => by simp [rowAt, natOf]
theorem zip_rows {rs : List (Nat × Nat)} {f : List Int} : List.zipWith (fun x y => D.tup [x, y]) (rs.map roadD) (f.map D.int) = (rs.zip f).map fun z => D.tup [roadD z.1, .int z.2] := by
  rw [List.zipWith_map, List.zip, List.map_zipWith]
theorem zip_ints {a b : List Int} : List.zipWith (fun x y => D.tup [x, y]) (a.map D.int) (b.map D.int) = (a.zip b).map fun z => D.tup [.int z.1, .int z.2] := by
  rw [List.zipWith_map, List.zip, List.map_zipWith]
theorem rep_ints (k : Nat) : List.replicate k (D.int 0) = (List.replicate k (0 : Int)).map D.int := by rw [List.map_replicate]
end TW
namespace TW
open PySem PySem.Spec L2 DL G
theorem plain_natsP {L : List Nat} : (plains (natsD L) = true) = True := eq_true (plain_nats L)
theorem shaped_natsP {L : List Nat} : (SeqAt.shaped (.list (pys (natsD L))) = true) = True := eq_true (shaped_nats L)
theorem shaped_intP {i : Int} : (SeqAt.shaped (py (.int i)) = true) = True := eq_true rfl
theorem plain_intP {i : Int} : (DL.plain (.int i) = true) = True := eq_true rfl
theorem flat_natsP {L : List Nat} : ((natsD L).all pIn.flatD = true) = True := eq_true (flat_nats L)
theorem flat_intP {i : Int} : (pIn.flatD (.int i) = true) = True := eq_true rfl
theorem cleans_nats : ∀ L : List Nat, cleanN.cleans 0 (natsD L) = true
  | [] => by simp [natsD, cleanN.cleans]
  | k :: L => by
    have := cleans_nats L
    have e : natsD (k :: L) = .int (k : Nat) :: natsD L := rfl
    rw [e]
    simp [cleanN.cleans, cleanN, imm, this]
theorem cleans_natsP {L : List Nat} : cleanN.cleans 0 (natsD L) = true := cleans_nats L
end TW
end
section
open PySem PySem.Spec L2 DL
set_option Elab.async false
set_option linter.all false
set_option maxRecDepth 100000
set_option maxHeartbeats 3900000
namespace K79
abbrev xl : Xl := [(0, "LoanError", none), (1, "Unfit", none)]
abbrev xp : List (Nat × Str) := [(0, "LoanError"), (1, "Unfit")]
abbrev nm_is_number : List Str := ["value"]
abbrev pa_is_number : List Str := ["value"]
def bd_is_number : List RS := [.ret (.bop true [.call 1011 [.pk 0], .prim .nt [.call 1012 [.pk 0]]])]
abbrev tb_is_number : Tb := ⟨[], [], []⟩
theorem sc_is_number : FnScope nm_is_number pa_is_number (defScope st_is_number) := ⟨rfl, rfl, rfl, by decide +kernel, rfl, by decide +kernel, by decide +kernel⟩
theorem ck_is_number {X : Cx} {c : Cn} {m : Am} {T : Txt} {W : WX} (B : BX X c T W nm_is_number (defScope st_is_number) (fun _ => true) tb_is_number) (O : OpsB T) : PSs X (defBody st_is_number) (rdSs c m T W bd_is_number) :=
  s_cons (s_ret (e_and B.cb (e_isi B.cb O.isI.c (by decide +kernel) (by decide +kernel) (by decide) (by decide +kernel) (by decide) (e_pk B.cb (by decide +kernel))) (e_bop1 (e_not B.cb (e_isi B.cb O.isB.c (by decide +kernel) (by decide +kernel) (by decide) (by decide +kernel) (by decide) (e_pk B.cb (by decide +kernel))))))) (s_nil)
abbrev nm_is_within : List Str := ["value", "least", "most"]
abbrev pa_is_within : List Str := ["value", "least", "most"]
def bd_is_within : List RS := [.ret (.bop true [.call 120 [.pk 0], .chn .le .le (.pk 1) (.pk 0) (.pk 2)])]
abbrev tb_is_within : Tb := ⟨[(120, "is_number")], [], []⟩
theorem sc_is_within : FnScope nm_is_within pa_is_within (defScope st_is_within) := ⟨rfl, rfl, rfl, by decide +kernel, rfl, by decide +kernel, by decide +kernel⟩
theorem ck_is_within {X : Cx} {c : Cn} {m : Am} {T : Txt} {W : WX} (B : BX X c T W nm_is_within (defScope st_is_within) (fun _ => true) tb_is_within) : PSs X (defBody st_is_within) (rdSs c m T W bd_is_within) :=
  s_cons (s_ret (e_and B.cb (n_call 0 B (by rfl) (by decide +kernel) (a_cons (e_pk B.cb (by decide +kernel)) (a_nil))) (e_bop1 (e_chain (op_le' B) (op_le' B) (e_pk B.cb (by decide +kernel)) (e_pk B.cb (by decide +kernel)) (e_pk B.cb (by decide +kernel)))))) (s_nil)
abbrev nm_reached : List Str := ["houses", "roads", "house", "known", "waiting", "here", "one", "two", "other", "own"]
abbrev pa_reached : List Str := ["houses", "roads", "house"]
def bd_reached : List RS := [.par [3, 4] [.call 1004 [.var 2, .lit (.bl true)], .prim .lstD [.var 2]], .whl (.prim .ne [.pk 4, .prim .lstD []]) [.asg (.nm 5) (.pop 4), .for_ (.tp [.nm 6, .nm 7]) .seq [.pk 1] [.asg (.nm 8) (.ifx (.prim .eq [.pk 6, .pk 5]) (.var 7) (.var 6)), .iff (.bop true [.prim .in_ [.pk 5, .prim .tupD [.var 6, .var 7]], .prim .nin [.pk 8, .pk 3]]) [.setx 3 (.pk 8) (.lit (.bl true)), .app 4 (.var 8)] []]], .ret (.comp [9] (.nm 9) .rng [.pk 0] [.prim .in_ [.pk 9, .pk 3]] (.var 9))]
abbrev tb_reached : Tb := ⟨[], [], []⟩
theorem sc_reached : FnScope nm_reached pa_reached (defScope st_reached) := ⟨rfl, rfl, rfl, by decide +kernel, rfl, by decide +kernel, by decide +kernel⟩
theorem ck_reached {X : Cx} {c : Cn} {m : Am} {T : Txt} {W : WX} (B : BX X c T W nm_reached (defScope st_reached) (fun _ => true) tb_reached) (O : OpsB T) : PSs X (defBody st_reached) (rdSs c m T W bd_reached) :=
  s_cons (s_par2c B (by decide +kernel) (by decide +kernel) (a_cons (e_dK1 O.dK1.c O.dK1.l (e_var B.cb (by decide +kernel)) (e_bl)) (a_cons (e_lst (a_cons (e_var B.cb (by decide +kernel)) (a_nil))) (a_nil))) (by decide +kernel)) (s_cons (s_while B.po (t_cmp (op_ne' B) (e_pk B.cb (by decide +kernel)) (e_lst (a_nil))) (s_cons (s_set B.cb (by decide +kernel) (e_pop B.cb (by decide +kernel))) (s_cons (s_for B.po B.calm (i_seq B.cb (e_pk B.cb (by decide +kernel))) (g_tup B.calm (gs_cons (g_name B.cb (by decide +kernel)) (gs_cons (g_name B.cb (by decide +kernel)) (gs_nil)))) (s_cons (s_set B.cb (by decide +kernel) (e_ifx (t_cmp (op_eq' B) (e_pk B.cb (by decide +kernel)) (e_pk B.cb (by decide +kernel))) (e_var B.cb (by decide +kernel)) (e_var B.cb (by decide +kernel)))) (s_cons (s_if ((w_and (t_cmp (op_in' B) (e_pk B.cb (by decide +kernel)) (e_tup (a_cons (e_var B.cb (by decide +kernel)) (a_cons (e_var B.cb (by decide +kernel)) (a_nil))))) (w_and1 (t_cmp (op_nin' B) (e_pk B.cb (by decide +kernel)) (e_pk B.cb (by decide +kernel))))).pt) (s_cons (s_setx B.cb (by decide +kernel) (e_bl) (e_pk B.cb (by decide +kernel))) (s_cons (s_app B.cb (by decide +kernel) (e_var B.cb (by decide +kernel))) (s_nil))) (s_nil)) (s_nil)))) (s_nil)))) (s_cons (s_ret (e_comp (own := [("own", 9)]) B (i_rng1 B.cb (by decide +kernel) (e_pk B.cb (by decide +kernel))) (by decide +kernel) (by decide +kernel) (fun _ C1 => g_name C1.cb (by decide +kernel)) (fun _ C1 => ts_one (t_cmp (op_in' C1) (e_pk C1.cb (by decide +kernel)) (e_pk C1.cb (by decide +kernel)))) (fun _ C1 => e_var C1.cb (by decide +kernel)))) (s_nil)))
abbrev nm_money : List Str := ["purse"]
abbrev pa_money : List Str := ["purse"]
def bd_money : List RS := [.ret (.call 1000 [.pk 0])]
abbrev tb_money : Tb := ⟨[], [], []⟩
theorem sc_money : FnScope nm_money pa_money (defScope st_money) := ⟨rfl, rfl, rfl, by decide +kernel, rfl, by decide +kernel, by decide +kernel⟩
theorem ck_money {X : Cx} {c : Cn} {m : Am} {T : Txt} {W : WX} (B : BX X c T W nm_money (defScope st_money) (fun _ => true) tb_money) (O : OpsB T) : PSs X (defBody st_money) (rdSs c m T W bd_money) :=
  s_cons (s_ret (bi_op B.cb O.sum.c (x_sum B.calm) (by decide +kernel) (by decide) (by decide +kernel) (by decide) (a_cons (e_pk B.cb (by decide +kernel)) (a_nil)))) (s_nil)
abbrev nm_is_row : List Str := ["town", "value"]
abbrev pa_is_row : List Str := ["town", "value"]
def bd_is_row : List RS := [.ret (.bop true [.call 1014 [.pk 1], .prim .eq [.prim .len [.pk 1], .prim .len [.prim .idx [.pk 0, .lit (.int 1)]]]])]
abbrev tb_is_row : Tb := ⟨[], [], []⟩
theorem sc_is_row : FnScope nm_is_row pa_is_row (defScope st_is_row) := ⟨rfl, rfl, rfl, by decide +kernel, rfl, by decide +kernel, by decide +kernel⟩
theorem ck_is_row {X : Cx} {c : Cn} {m : Am} {T : Txt} {W : WX} (B : BX X c T W nm_is_row (defScope st_is_row) (fun _ => true) tb_is_row) (O : OpsB T) : PSs X (defBody st_is_row) (rdSs c m T W bd_is_row) :=
  s_cons (s_ret (e_and B.cb (e_isi B.cb O.isT.c (by decide +kernel) (by decide +kernel) (by decide) (by decide +kernel) (by decide) (e_pk B.cb (by decide +kernel))) (e_bop1 (e_cmp (op_eq' B) (b_len B (a_cons (e_pk B.cb (by decide +kernel)) (a_nil)) (hg := (by decide +kernel))) (b_len B (a_cons (e_idx B.cb (e_pk B.cb (by decide +kernel)) (e_int)) (a_nil)) (hg := (by decide +kernel))))))) (s_nil)
abbrev nm_flow_error : List Str := ["town", "value", "place", "item"]
abbrev pa_flow_error : List Str := ["town", "value"]
def bd_flow_error : List RS := [.iff (.prim .nt [.call 122 [.pk 0, .pk 1]]) [.ret (.lit (.str "form"))] [], .for_ (.tp [.nm 2, .nm 3]) .enum [.pk 1] [.iff (.prim .nt [.call 121 [.pk 3, .prim .neg [.glb 0], .glb 0]]) [.ret (.prim .tupD [.lit (.str "road"), .var 2])] []], .ret (.lit .non)]
abbrev tb_flow_error : Tb := ⟨[(122, "is_row"), (121, "is_within")], [], [(0, "MAX_MONEY")]⟩
theorem sc_flow_error : FnScope nm_flow_error pa_flow_error (defScope st_flow_error) := ⟨rfl, rfl, rfl, by decide +kernel, rfl, by decide +kernel, by decide +kernel⟩
theorem ck_flow_error {X : Cx} {c : Cn} {m : Am} {T : Txt} {W : WX} (B : BX X c T W nm_flow_error (defScope st_flow_error) (fun _ => true) tb_flow_error) : PSs X (defBody st_flow_error) (rdSs c m T W bd_flow_error) :=
  s_cons (s_if (t_not (t_val B.cb (n_call 0 B (by rfl) (by decide +kernel) (a_cons (e_pk B.cb (by decide +kernel)) (a_cons (e_pk B.cb (by decide +kernel)) (a_nil)))))) (s_cons (s_ret (e_str)) (s_nil)) (s_nil)) (s_cons (s_for B.po B.calm (i_enum B.cb (by decide +kernel) (e_pk B.cb (by decide +kernel))) (g_tup B.calm (gs_cons (g_name B.cb (by decide +kernel)) (gs_cons (g_name B.cb (by decide +kernel)) (gs_nil)))) (s_cons (s_if (t_not (t_val B.cb (n_call 1 B (by rfl) (by decide +kernel) (a_cons (e_pk B.cb (by decide +kernel)) (a_cons (e_neg (n_glb 0 B (by rfl) (by decide +kernel))) (a_cons (n_glb 0 B (by rfl) (by decide +kernel)) (a_nil))))))) (s_cons (s_ret (e_tup (a_cons (e_str) (a_cons (e_var B.cb (by decide +kernel)) (a_nil))))) (s_nil)) (s_nil)) (s_nil))) (s_cons (s_ret (e_non)) (s_nil)))
abbrev nm_ends : List Str := ["town", "flow", "found", "one", "other", "item"]
abbrev pa_ends : List Str := ["town", "flow"]
def bd_ends : List RS := [.asg (.nm 2) (.prim .mul [.prim .lstD [.lit (.int 0)], .prim .idx [.pk 0, .lit (.int 0)]]), .for_ (.tp [.tp [.nm 3, .nm 4], .nm 5]) .zip [.prim .idx [.pk 0, .lit (.int 1)], .pk 1] [.setx 2 (.pk 3) (.prim .sub [.prim .idx [.pk 2, .pk 3], .pk 5]), .setx 2 (.pk 4) (.prim .add [.prim .idx [.pk 2, .pk 4], .pk 5])], .ret (.prim .tuple [.pk 2])]
abbrev tb_ends : Tb := ⟨[], [], []⟩
theorem sc_ends : FnScope nm_ends pa_ends (defScope st_ends) := ⟨rfl, rfl, rfl, by decide +kernel, rfl, by decide +kernel, by decide +kernel⟩
theorem ck_ends {X : Cx} {c : Cn} {m : Am} {T : Txt} {W : WX} (B : BX X c T W nm_ends (defScope st_ends) (fun _ => true) tb_ends) : PSs X (defBody st_ends) (rdSs c m T W bd_ends) :=
  s_cons (s_set B.cb (by decide +kernel) (n_mul B (e_lst (a_cons (e_int) (a_nil))) (e_idx B.cb (e_pk B.cb (by decide +kernel)) (e_int)))) (s_cons (s_for B.po B.calm (i_zip B.cb (by decide +kernel) (e_idx B.cb (e_pk B.cb (by decide +kernel)) (e_int)) (e_pk B.cb (by decide +kernel))) (g_tup B.calm (gs_cons (g_tup B.calm (gs_cons (g_name B.cb (by decide +kernel)) (gs_cons (g_name B.cb (by decide +kernel)) (gs_nil)))) (gs_cons (g_name B.cb (by decide +kernel)) (gs_nil)))) (s_cons (s_setx B.cb (by decide +kernel) (n_sub B (e_idx B.cb (e_pk B.cb (by decide +kernel)) (e_pk B.cb (by decide +kernel))) (e_pk B.cb (by decide +kernel))) (e_pk B.cb (by decide +kernel))) (s_cons (s_setx B.cb (by decide +kernel) (n_add B (e_idx B.cb (e_pk B.cb (by decide +kernel)) (e_pk B.cb (by decide +kernel))) (e_pk B.cb (by decide +kernel))) (e_pk B.cb (by decide +kernel))) (s_nil)))) (s_cons (s_ret (b_tuple B (a_cons (e_pk B.cb (by decide +kernel)) (a_nil)) (hg := (by decide +kernel)))) (s_nil)))
abbrev nm_cut_flow : List Str := ["town", "script", "one", "other"]
abbrev pa_cut_flow : List Str := ["town", "script"]
def bd_cut_flow : List RS := [.ret (.prim .tuple [.comp [2, 3] (.tp [.nm 2, .nm 3]) .seq [.prim .idx [.pk 0, .lit (.int 1)]] [] (.prim .sub [.prim .idx [.pk 1, .pk 2], .prim .idx [.pk 1, .pk 3]])])]
abbrev tb_cut_flow : Tb := ⟨[], [], []⟩
theorem sc_cut_flow : FnScope nm_cut_flow pa_cut_flow (defScope st_cut_flow) := ⟨rfl, rfl, rfl, by decide +kernel, rfl, by decide +kernel, by decide +kernel⟩
theorem ck_cut_flow {X : Cx} {c : Cn} {m : Am} {T : Txt} {W : WX} (B : BX X c T W nm_cut_flow (defScope st_cut_flow) (fun _ => true) tb_cut_flow) : PSs X (defBody st_cut_flow) (rdSs c m T W bd_cut_flow) :=
  s_cons (s_ret (b_tuple B (a_cons (e_comp (own := [("one", 2), ("other", 3)]) B (i_seq B.cb (e_idx B.cb (e_pk B.cb (by decide +kernel)) (e_int))) (by decide +kernel) (by decide +kernel) (fun _ C1 => g_tup C1.calm (gs_cons (g_name C1.cb (by decide +kernel)) (gs_cons (g_name C1.cb (by decide +kernel)) (gs_nil)))) (fun _ C1 => ts_nil) (fun _ C1 => n_sub C1 (e_idx C1.cb (e_pk C1.cb (by decide +kernel)) (e_pk C1.cb (by decide +kernel))) (e_idx C1.cb (e_pk C1.cb (by decide +kernel)) (e_pk C1.cb (by decide +kernel))))) (a_nil)) (hg := (by decide +kernel)))) (s_nil)
abbrev nm_tree_places : List Str := ["town", "found", "place", "one", "other", "own"]
abbrev pa_tree_places : List Str := ["town"]
def bd_tree_places : List RS := [.asg (.nm 1) (.prim .lstD []), .for_ (.tp [.nm 2, .tp [.nm 3, .nm 4]]) .enum [.prim .idx [.pk 0, .lit (.int 1)]] [.iff (.prim .nin [.pk 4, .call 100 [.prim .idx [.pk 0, .lit (.int 0)], .comp [5] (.nm 5) .seq [.pk 1] [] (.prim .idx [.prim .idx [.pk 0, .lit (.int 1)], .pk 5]), .pk 3]]) [.app 1 (.var 2)] []], .ret (.mv 1)]
abbrev tb_tree_places : Tb := ⟨[(100, "reached")], [], []⟩
theorem sc_tree_places : FnScope nm_tree_places pa_tree_places (defScope st_tree_places) := ⟨rfl, rfl, rfl, by decide +kernel, rfl, by decide +kernel, by decide +kernel⟩
theorem ck_tree_places {X : Cx} {c : Cn} {m : Am} {T : Txt} {W : WX} (B : BX X c T W nm_tree_places (defScope st_tree_places) (fun _ => true) tb_tree_places) : PSs X (defBody st_tree_places) (rdSs c m T W bd_tree_places) :=
  s_cons (s_set B.cb (by decide +kernel) (e_lst (a_nil))) (s_cons (s_for B.po B.calm (i_enum B.cb (by decide +kernel) (e_idx B.cb (e_pk B.cb (by decide +kernel)) (e_int))) (g_tup B.calm (gs_cons (g_name B.cb (by decide +kernel)) (gs_cons (g_tup B.calm (gs_cons (g_name B.cb (by decide +kernel)) (gs_cons (g_name B.cb (by decide +kernel)) (gs_nil)))) (gs_nil)))) (s_cons (s_if (t_cmp (op_nin' B) (e_pk B.cb (by decide +kernel)) (n_call 0 B (by rfl) (by decide +kernel) (a_cons (e_idx B.cb (e_pk B.cb (by decide +kernel)) (e_int)) (a_cons (e_comp (own := [("own", 5)]) B (i_seq B.cb (e_pk B.cb (by decide +kernel))) (by decide +kernel) (by decide +kernel) (fun _ C1 => g_name C1.cb (by decide +kernel)) (fun _ C1 => ts_nil) (fun _ C1 => e_idx C1.cb (e_idx C1.cb (e_pk C1.cb (by decide +kernel)) (e_int)) (e_pk C1.cb (by decide +kernel)))) (a_cons (e_pk B.cb (by decide +kernel)) (a_nil)))))) (s_cons (s_app B.cb (by decide +kernel) (e_var B.cb (by decide +kernel))) (s_nil)) (s_nil)) (s_nil))) (s_cons (s_ret (e_mv B.cb (by decide +kernel))) (s_nil)))
abbrev nm_flow_for : List Str := ["town", "purse", "found", "tree", "place", "rest", "own", "house"]
abbrev pa_flow_for : List Str := ["town", "purse"]
def bd_flow_for : List RS := [.iff (.prim .ne [.call 101 [.pk 1], .lit (.int 0)]) [.rse 1 none] [], .par [2, 3] [.prim .mul [.prim .lstD [.lit (.int 0)], .prim .len [.prim .idx [.pk 0, .lit (.int 1)]]], .call 104 [.pk 0]], .for_ (.nm 4) .seq [.pk 3] [.asg (.nm 5) (.comp [6] (.nm 6) .seq [.pk 3] [.prim .ne [.pk 6, .pk 4]] (.prim .idx [.prim .idx [.pk 0, .lit (.int 1)], .pk 6])), .setx 2 (.pk 4) (.call 1000 [.comp [7] (.nm 7) .seq [.call 100 [.prim .idx [.pk 0, .lit (.int 0)], .pk 5, .prim .idx [.prim .idx [.prim .idx [.pk 0, .lit (.int 1)], .pk 4], .lit (.int 1)]]] [] (.prim .idx [.pk 1, .pk 7])])], .ret (.prim .tuple [.pk 2])]
abbrev tb_flow_for : Tb := ⟨[(101, "money"), (104, "tree_places"), (100, "reached")], [], []⟩
theorem sc_flow_for : FnScope nm_flow_for pa_flow_for (defScope st_flow_for) := ⟨rfl, rfl, rfl, by decide +kernel, rfl, by decide +kernel, by decide +kernel⟩
theorem ck_flow_for {X : Cx} {c : Cn} {m : Am} {T : Txt} {W : WX} (B : BX X c T W nm_flow_for (defScope st_flow_for) (fun _ => true) tb_flow_for) (O : OpsB T) (R : EP X.K X.mg c xp) : PSs X (defBody st_flow_for) (rdSs c m T W bd_flow_for) :=
  s_cons (s_if (t_cmp (op_ne' B) (n_call 0 B (by rfl) (by decide +kernel) (a_cons (e_pk B.cb (by decide +kernel)) (a_nil))) (e_int)) (s_cons (x_raise0 1 B R (by rfl) (by decide +kernel)) (s_nil)) (s_nil)) (s_cons (s_par2 B (by decide +kernel) (by decide +kernel) (by decide) (a_cons (n_mul B (e_lst (a_cons (e_int) (a_nil))) (b_len B (a_cons (e_idx B.cb (e_pk B.cb (by decide +kernel)) (e_int)) (a_nil)) (hg := (by decide +kernel)))) (a_cons (n_call 1 B (by rfl) (by decide +kernel) (a_cons (e_pk B.cb (by decide +kernel)) (a_nil))) (a_nil))) (sw2 (i := 2) (j := 3) B.cb (by decide +kernel) (by decide +kernel) (by rfl) (by decide +kernel) (by rfl) (by rfl))) (s_cons (s_for B.po B.calm (i_seq B.cb (e_pk B.cb (by decide +kernel))) (g_name B.cb (by decide +kernel)) (s_cons (s_setLc (own := [("own", 6)]) B (by decide +kernel) (by rfl) (by decide +kernel) (by decide +kernel) (i_seq B.cb (e_pk B.cb (by decide +kernel))) (by decide +kernel) (by decide +kernel) (fun _ C1 => g_name C1.cb (by decide +kernel)) (fun _ C1 => ts_one (t_cmp (op_ne' C1) (e_pk C1.cb (by decide +kernel)) (e_pk C1.cb (by decide +kernel)))) (fun _ C1 => e_idx C1.cb (e_idx C1.cb (e_pk C1.cb (by decide +kernel)) (e_int)) (e_pk C1.cb (by decide +kernel)))) (s_cons (s_setx B.cb (by decide +kernel) (bi_op B.cb O.sum.c (x_sum B.calm) (by decide +kernel) (by decide) (by decide +kernel) (by decide) (a_cons (e_comp (own := [("house", 7)]) B (i_seq B.cb (n_call 2 B (by rfl) (by decide +kernel) (a_cons (e_idx B.cb (e_pk B.cb (by decide +kernel)) (e_int)) (a_cons (e_pk B.cb (by decide +kernel)) (a_cons (e_idx B.cb (e_idx B.cb (e_idx B.cb (e_pk B.cb (by decide +kernel)) (e_int)) (e_pk B.cb (by decide +kernel))) (e_int)) (a_nil)))))) (by decide +kernel) (by decide +kernel) (fun _ C1 => g_name C1.cb (by decide +kernel)) (fun _ C1 => ts_nil) (fun _ C1 => e_idx C1.cb (e_pk C1.cb (by decide +kernel)) (e_pk C1.cb (by decide +kernel)))) (a_nil))) (e_pk B.cb (by decide +kernel))) (s_nil)))) (s_cons (s_ret (b_tuple B (a_cons (e_pk B.cb (by decide +kernel)) (a_nil)) (hg := (by decide +kernel)))) (s_nil))))
abbrev nm_flow_for_error : List Str := ["town", "purse", "value", "item"]
abbrev pa_flow_for_error : List Str := ["town", "purse", "value"]
def bd_flow_for_error : List RS := [.iff (.bop false [.prim .nt [.call 122 [.pk 0, .pk 2]], .prim .nt [.prim .all_ [.comp [3] (.nm 3) .seq [.pk 2] [] (.call 120 [.pk 3])]]]) [.ret (.lit (.str "form"))] [], .ret (.ifx (.prim .eq [.call 102 [.pk 0, .pk 2], .prim .tuple [.pk 1]]) (.lit .non) (.lit (.str "ends")))]
abbrev tb_flow_for_error : Tb := ⟨[(122, "is_row"), (120, "is_number"), (102, "ends")], [], []⟩
theorem sc_flow_for_error : FnScope nm_flow_for_error pa_flow_for_error (defScope st_flow_for_error) := ⟨rfl, rfl, rfl, by decide +kernel, rfl, by decide +kernel, by decide +kernel⟩
theorem ck_flow_for_error {X : Cx} {c : Cn} {m : Am} {T : Txt} {W : WX} (B : BX X c T W nm_flow_for_error (defScope st_flow_for_error) (fun _ => true) tb_flow_for_error) : PSs X (defBody st_flow_for_error) (rdSs c m T W bd_flow_for_error) :=
  s_cons (s_if ((w_or (t_not (t_val B.cb (n_call 0 B (by rfl) (by decide +kernel) (a_cons (e_pk B.cb (by decide +kernel)) (a_cons (e_pk B.cb (by decide +kernel)) (a_nil)))))) (w_or1 (t_not (t_val B.cb (b_all B (a_cons (e_comp (own := [("item", 3)]) B (i_seq B.cb (e_pk B.cb (by decide +kernel))) (by decide +kernel) (by decide +kernel) (fun _ C1 => g_name C1.cb (by decide +kernel)) (fun _ C1 => ts_nil) (fun _ C1 => n_call 1 C1 (by rfl) (by decide +kernel) (a_cons (e_pk C1.cb (by decide +kernel)) (a_nil)))) (a_nil)) (hg := (by decide +kernel))))))).pt) (s_cons (s_ret (e_str)) (s_nil)) (s_nil)) (s_cons (s_ret (e_ifx (t_cmp (op_eq' B) (n_call 2 B (by rfl) (by decide +kernel) (a_cons (e_pk B.cb (by decide +kernel)) (a_cons (e_pk B.cb (by decide +kernel)) (a_nil)))) (b_tuple B (a_cons (e_pk B.cb (by decide +kernel)) (a_nil)) (hg := (by decide +kernel)))) (e_non) (e_str))) (s_nil))
abbrev nm_law_deck : List Str := ["script", "deck", "cell", "own"]
abbrev pa_law_deck : List Str := ["script"]
def bd_law_deck : List RS := [.asg (.nm 1) (.prim (.dKN ["great", "mixed", "turns"]) [.prim .lstD [], .prim .add [.lit (.int 1624579), .prim .len [.prim (.slc false true) [.pk 0, .lit (.int 63)]]], .lit (.int 0)]), .for_ (.nm 2) .seq [.prim (.slc false true) [.pk 0, .lit (.int 63)]] [.asg (.nm 3) (.prim .add [.prim .mul [.lit (.int 2), .prim .abs [.pk 2]], .prim .int_ [.prim .lt [.pk 2, .lit (.int 0)]]]), .iff (.prim .ge [.pk 3, .prim .pow [.lit (.int 10), .lit (.int 16)]]) [.exp (.call 1009 [.pk 1, .call 1008 [.pk 1, .lit (.str "great")], .var 3])] [], .setx 1 (.lit (.str "mixed")) (.prim .mod [.prim .int_ [.prim .add [.prim .add [.prim .mul [.prim .idx [.pk 1, .lit (.str "mixed")], .lit (.int 69621)], .pk 3], .lit (.int 29)]], .lit (.int 4294967291)])], .ret (.mv 1)]
abbrev tb_law_deck : Tb := ⟨[], [], []⟩
theorem sc_law_deck : FnScope nm_law_deck pa_law_deck (defScope st_law_deck) := ⟨rfl, rfl, rfl, by decide +kernel, rfl, by decide +kernel, by decide +kernel⟩
theorem ck_law_deck {X : Cx} {c : Cn} {m : Am} {T : Txt} {W : WX} (B : BX X c T W nm_law_deck (defScope st_law_deck) (fun _ => true) tb_law_deck) (O : OpsB T) : PSs X (defBody st_law_deck) (rdSs c m T W bd_law_deck) :=
  s_cons (s_set B.cb (by decide +kernel) (e_dKN (d_cons (e_lst (a_nil)) (d_cons (n_add B (e_int) (b_len B (a_cons (e_sl01 B.cb (e_pk B.cb (by decide +kernel)) (e_int)) (a_nil)) (hg := (by decide +kernel)))) (d_cons (e_int) (d_nil)))) rfl)) (s_cons (s_for B.po B.calm (i_seq B.cb (e_sl01 B.cb (e_pk B.cb (by decide +kernel)) (e_int))) (g_name B.cb (by decide +kernel)) (s_cons (s_set B.cb (by decide +kernel) (n_add B (n_mul B (e_int) (b_abs B (a_cons (e_pk B.cb (by decide +kernel)) (a_nil)) (hg := (by decide +kernel)))) (b_int B (a_cons (e_cmp (op_lt' B) (e_pk B.cb (by decide +kernel)) (e_int)) (a_nil)) (hg := (by decide +kernel))))) (s_cons (s_if (t_cmp (op_ge' B) (e_pk B.cb (by decide +kernel)) (n_pow B (e_int) (e_int))) (s_cons (s_napp B.cb O.nhas.c O.napp.c O.napp.l (by decide +kernel) (e_str) (pe_vr (i := 3) B.cb (by decide +kernel)) st_var) (s_nil)) (s_nil)) (s_cons (s_setx B.cb (by decide +kernel) (n_mod B (b_int B (a_cons (n_add B (n_add B (n_mul B (e_idx B.cb (e_pk B.cb (by decide +kernel)) (e_str)) (e_int)) (e_pk B.cb (by decide +kernel))) (e_int)) (a_nil)) (hg := (by decide +kernel))) (e_int)) (e_str)) (s_nil))))) (s_cons (s_ret (e_mv B.cb (by decide +kernel))) (s_nil)))
abbrev nm_law_draw : List Str := ["deck", "many", "great", "number"]
abbrev pa_law_draw : List Str := ["deck", "many"]
def bd_law_draw : List RS := [.iff (.prim .lt [.pk 1, .lit (.int 2)]) [.ret (.lit (.int 0))] [], .iff (.call 1007 [.pk 0, .lit (.str "great")]) [.asg (.nm 2) (.call 1010 [.pk 0, .lit (.str "great")]), .iff (.prim .ge [.pk 2, .pk 1]) [.exp (.call 1009 [.pk 0, .call 1008 [.pk 0, .lit (.str "great")], .prim .fdiv [.pk 2, .pk 1]])] [], .ret (.prim .mod [.prim .int_ [.pk 2], .pk 1])] [], .setx 0 (.lit (.str "turns")) (.prim .add [.prim .idx [.pk 0, .lit (.str "turns")], .lit (.int 1)]), .asg (.nm 3) (.prim .mod [.prim .int_ [.prim .add [.prim .idx [.pk 0, .lit (.str "mixed")], .prim .mul [.lit (.int 2654435761), .prim .idx [.pk 0, .lit (.str "turns")]]]], .lit (.int 4294967279)]), .asg (.nm 3) (.prim .mod [.prim .int_ [.prim .add [.prim .add [.prim .mul [.pk 3, .pk 3], .prim .mul [.lit (.int 40692), .prim .idx [.pk 0, .lit (.str "turns")]]], .lit (.int 23)]], .lit (.int 4294967231)]), .asg (.nm 3) (.prim .mod [.prim .int_ [.prim .add [.prim .mul [.pk 3, .pk 3], .prim .mul [.prim .idx [.pk 0, .lit (.str "mixed")], .lit (.int 11)]]], .lit (.int 4294967197)]), .ret (.prim .mod [.prim .int_ [.prim .fdiv [.pk 3, .lit (.int 64)]], .pk 1])]
abbrev tb_law_draw : Tb := ⟨[], [], []⟩
theorem sc_law_draw : FnScope nm_law_draw pa_law_draw (defScope st_law_draw) := ⟨rfl, rfl, rfl, by decide +kernel, rfl, by decide +kernel, by decide +kernel⟩
theorem ck_law_draw {X : Cx} {c : Cn} {m : Am} {T : Txt} {W : WX} (B : BX X c T W nm_law_draw (defScope st_law_draw) (fun _ => true) tb_law_draw) (O : OpsB T) : PSs X (defBody st_law_draw) (rdSs c m T W bd_law_draw) :=
  s_cons (s_if (t_cmp (op_lt' B) (e_pk B.cb (by decide +kernel)) (e_int)) (s_cons (s_ret (e_int)) (s_nil)) (s_nil)) (s_cons (s_if (t_nne B.cb O.nne.c (e_pk B.cb (by decide +kernel)) (e_str)) (s_cons (s_set B.cb (by decide +kernel) (e_npop B.cb O.npop.c O.npop.l (e_pk B.cb (by decide +kernel)) (e_str))) (s_cons (s_if (t_cmp (op_ge' B) (e_pk B.cb (by decide +kernel)) (e_pk B.cb (by decide +kernel))) (s_cons (s_napp B.cb O.nhas.c O.napp.c O.napp.l (by decide +kernel) (e_str) (pe_fdiv2 (i := 2) (j := 1) B.cb (by decide +kernel) (by decide +kernel)) st_fdiv) (s_nil)) (s_nil)) (s_cons (s_ret (n_mod B (b_int B (a_cons (e_pk B.cb (by decide +kernel)) (a_nil)) (hg := (by decide +kernel))) (e_pk B.cb (by decide +kernel)))) (s_nil)))) (s_nil)) (s_cons (s_setx B.cb (by decide +kernel) (n_add B (e_idx B.cb (e_pk B.cb (by decide +kernel)) (e_str)) (e_int)) (e_str)) (s_cons (s_set B.cb (by decide +kernel) (n_mod B (b_int B (a_cons (n_add B (e_idx B.cb (e_pk B.cb (by decide +kernel)) (e_str)) (n_mul B (e_int) (e_idx B.cb (e_pk B.cb (by decide +kernel)) (e_str)))) (a_nil)) (hg := (by decide +kernel))) (e_int))) (s_cons (s_set B.cb (by decide +kernel) (n_mod B (b_int B (a_cons (n_add B (n_add B (n_mul B (e_pk B.cb (by decide +kernel)) (e_pk B.cb (by decide +kernel))) (n_mul B (e_int) (e_idx B.cb (e_pk B.cb (by decide +kernel)) (e_str)))) (e_int)) (a_nil)) (hg := (by decide +kernel))) (e_int))) (s_cons (s_set B.cb (by decide +kernel) (n_mod B (b_int B (a_cons (n_add B (n_mul B (e_pk B.cb (by decide +kernel)) (e_pk B.cb (by decide +kernel))) (n_mul B (e_idx B.cb (e_pk B.cb (by decide +kernel)) (e_str)) (e_int))) (a_nil)) (hg := (by decide +kernel))) (e_int))) (s_cons (s_ret (n_mod B (b_int B (a_cons (n_fdiv B (e_pk B.cb (by decide +kernel)) (e_int)) (a_nil)) (hg := (by decide +kernel))) (e_pk B.cb (by decide +kernel)))) (s_nil)))))))
abbrev nm_law_pick : List Str := ["deck", "row"]
abbrev pa_law_pick : List Str := ["deck", "row"]
def bd_law_pick : List RS := [.ret (.prim .idx [.pk 1, .call 111 [.pk 0, .prim .len [.pk 1]]])]
abbrev tb_law_pick : Tb := ⟨[(111, "_law_draw")], [], []⟩
theorem sc_law_pick : FnScope nm_law_pick pa_law_pick (defScope st_law_pick) := ⟨rfl, rfl, rfl, by decide +kernel, rfl, by decide +kernel, by decide +kernel⟩
theorem ck_law_pick {X : Cx} {c : Cn} {m : Am} {T : Txt} {W : WX} (B : BX X c T W nm_law_pick (defScope st_law_pick) (fun _ => true) tb_law_pick) : PSs X (defBody st_law_pick) (rdSs c m T W bd_law_pick) :=
  s_cons (s_ret (e_idx B.cb (e_pk B.cb (by decide +kernel)) (n_call 0 B (by rfl) (by decide +kernel) (a_cons (e_pk B.cb (by decide +kernel)) (a_cons (b_len B (a_cons (e_pk B.cb (by decide +kernel)) (a_nil)) (hg := (by decide +kernel))) (a_nil)))))) (s_nil)
abbrev nm_law_any : List Str := ["deck", "deep", "sort", "items", "turn"]
abbrev pa_law_any : List Str := ["deck", "deep"]
def bd_law_any : List RS := [.asg (.nm 2) (.call 111 [.pk 0, .ifx (.prim .gt [.pk 1, .lit (.int 0)]) (.lit (.int 9)) (.lit (.int 6))]), .iff (.prim .lt [.pk 2, .lit (.int 6)]) [.ret (.prim .idx [.prim .lstD [.lit .non, .lit (.bl true), .call 112 [.pk 0, .prim .lstD [.lit (.int 0), .lit (.int 1), .lit (.int 2), .lit (.int 3), .prim .neg [.lit (.int 1)], .prim .pow [.lit (.int 10), .lit (.int 18)]]], .lit (.str ""), .lit (.str "on"), .lit (.str "in")], .pk 2])] [], .asg (.nm 3) (.comp [4] (.nm 4) .rng [.call 111 [.pk 0, .lit (.int 4)]] [] (.call 125 [.pk 0, .prim .sub [.pk 1, .lit (.int 1)]])), .ret (.ifx (.prim .lt [.pk 2, .lit (.int 8)]) (.prim .tuple [.pk 3]) (.mv 3))]
abbrev tb_law_any : Tb := ⟨[(111, "_law_draw"), (112, "_law_pick"), (125, "_law_any")], [], []⟩
theorem sc_law_any : FnScope nm_law_any pa_law_any (defScope st_law_any) := ⟨rfl, rfl, rfl, by decide +kernel, rfl, by decide +kernel, by decide +kernel⟩
theorem ck_law_any {X : Cx} {c : Cn} {m : Am} {T : Txt} {W : WX} (B : BX X c T W nm_law_any (defScope st_law_any) (fun _ => true) tb_law_any) : PSs X (defBody st_law_any) (rdSs c m T W bd_law_any) :=
  s_cons (s_set B.cb (by decide +kernel) (n_call 0 B (by rfl) (by decide +kernel) (a_cons (e_pk B.cb (by decide +kernel)) (a_cons (e_ifx (t_cmp (op_gt' B) (e_pk B.cb (by decide +kernel)) (e_int)) (e_int) (e_int)) (a_nil))))) (s_cons (s_if (t_cmp (op_lt' B) (e_pk B.cb (by decide +kernel)) (e_int)) (s_cons (s_ret (e_idx B.cb (e_lst (a_cons (e_non) (a_cons (e_bl) (a_cons (n_call 1 B (by rfl) (by decide +kernel) (a_cons (e_pk B.cb (by decide +kernel)) (a_cons (e_lst (a_cons (e_int) (a_cons (e_int) (a_cons (e_int) (a_cons (e_int) (a_cons (e_neg (e_int)) (a_cons (n_pow B (e_int) (e_int)) (a_nil)))))))) (a_nil)))) (a_cons (e_str) (a_cons (e_str) (a_cons (e_str) (a_nil)))))))) (e_pk B.cb (by decide +kernel)))) (s_nil)) (s_nil)) (s_cons (s_setLc (own := [("turn", 4)]) B (by decide +kernel) (by rfl) (by decide +kernel) (by decide +kernel) (i_rng1 B.cb (by decide +kernel) (n_call 0 B (by rfl) (by decide +kernel) (a_cons (e_pk B.cb (by decide +kernel)) (a_cons (e_int) (a_nil))))) (by decide +kernel) (by decide +kernel) (fun _ C1 => g_name C1.cb (by decide +kernel)) (fun _ C1 => ts_nil) (fun _ C1 => n_call 2 C1 (by rfl) (by decide +kernel) (a_cons (e_pk C1.cb (by decide +kernel)) (a_cons (n_sub C1 (e_pk C1.cb (by decide +kernel)) (e_int)) (a_nil))))) (s_cons (s_ret (e_ifx (t_cmp (op_lt' B) (e_pk B.cb (by decide +kernel)) (e_int)) (b_tuple B (a_cons (e_pk B.cb (by decide +kernel)) (a_nil)) (hg := (by decide +kernel))) (e_mv B.cb (by decide +kernel)))) (s_nil))))
abbrev nm_law_town : List Str := ["deck", "most", "more", "houses", "roads", "turn", "a", "b", "v"]
abbrev pa_law_town : List Str := ["deck", "most", "more"]
def bd_law_town : List RS := [.asg (.nm 3) (.prim .add [.lit (.int 1), .call 111 [.pk 0, .pk 1]]), .asg (.nm 4) (.comp [8] (.nm 8) .rng [.lit (.int 1), .pk 3] [] (.prim .tupD [.call 111 [.pk 0, .pk 8], .var 8])), .for_ (.nm 5) .rng [.ifx (.prim .gt [.pk 3, .lit (.int 1)]) (.call 111 [.pk 0, .prim .add [.pk 2, .lit (.int 1)]]) (.lit (.int 0))] [.asg (.nm 6) (.call 111 [.pk 0, .pk 3]), .asg (.nm 7) (.prim .mod [.prim .int_ [.prim .add [.prim .add [.pk 6, .lit (.int 1)], .call 111 [.pk 0, .prim .sub [.pk 3, .lit (.int 1)]]]], .pk 3]), .app 4 (.prim .tupD [.prim .min2 [.pk 6, .pk 7], .prim .max2 [.pk 6, .pk 7]])], .ret (.prim .tupD [.var 3, .prim .tuple [.prim .sorted [.pk 4]]])]
abbrev tb_law_town : Tb := ⟨[(111, "_law_draw")], [], []⟩
theorem sc_law_town : FnScope nm_law_town pa_law_town (defScope st_law_town) := ⟨rfl, rfl, rfl, by decide +kernel, rfl, by decide +kernel, by decide +kernel⟩
theorem ck_law_town {X : Cx} {c : Cn} {m : Am} {T : Txt} {W : WX} (B : BX X c T W nm_law_town (defScope st_law_town) (fun _ => true) tb_law_town) : PSs X (defBody st_law_town) (rdSs c m T W bd_law_town) :=
  s_cons (s_set B.cb (by decide +kernel) (n_add B (e_int) (n_call 0 B (by rfl) (by decide +kernel) (a_cons (e_pk B.cb (by decide +kernel)) (a_cons (e_pk B.cb (by decide +kernel)) (a_nil)))))) (s_cons (s_setLc (own := [("v", 8)]) B (by decide +kernel) (by rfl) (by decide +kernel) (by decide +kernel) (i_rng2 B.cb (by decide +kernel) (e_int) (e_pk B.cb (by decide +kernel))) (by decide +kernel) (by decide +kernel) (fun _ C1 => g_name C1.cb (by decide +kernel)) (fun _ C1 => ts_nil) (fun _ C1 => e_tup (a_cons (n_call 0 C1 (by rfl) (by decide +kernel) (a_cons (e_pk C1.cb (by decide +kernel)) (a_cons (e_pk C1.cb (by decide +kernel)) (a_nil)))) (a_cons (e_var C1.cb (by decide +kernel)) (a_nil))))) (s_cons (s_for B.po B.calm (i_rng1 B.cb (by decide +kernel) (e_ifx (t_cmp (op_gt' B) (e_pk B.cb (by decide +kernel)) (e_int)) (n_call 0 B (by rfl) (by decide +kernel) (a_cons (e_pk B.cb (by decide +kernel)) (a_cons (n_add B (e_pk B.cb (by decide +kernel)) (e_int)) (a_nil)))) (e_int))) (g_name B.cb (by decide +kernel)) (s_cons (s_set B.cb (by decide +kernel) (n_call 0 B (by rfl) (by decide +kernel) (a_cons (e_pk B.cb (by decide +kernel)) (a_cons (e_pk B.cb (by decide +kernel)) (a_nil))))) (s_cons (s_set B.cb (by decide +kernel) (n_mod B (b_int B (a_cons (n_add B (n_add B (e_pk B.cb (by decide +kernel)) (e_int)) (n_call 0 B (by rfl) (by decide +kernel) (a_cons (e_pk B.cb (by decide +kernel)) (a_cons (n_sub B (e_pk B.cb (by decide +kernel)) (e_int)) (a_nil))))) (a_nil)) (hg := (by decide +kernel))) (e_pk B.cb (by decide +kernel)))) (s_cons (s_app B.cb (by decide +kernel) (e_tup (a_cons (b_min2 B (a_cons (e_pk B.cb (by decide +kernel)) (a_cons (e_pk B.cb (by decide +kernel)) (a_nil))) (hg := (by decide +kernel))) (a_cons (b_max2 B (a_cons (e_pk B.cb (by decide +kernel)) (a_cons (e_pk B.cb (by decide +kernel)) (a_nil))) (hg := (by decide +kernel))) (a_nil))))) (s_nil))))) (s_cons (s_ret (e_tup (a_cons (e_var B.cb (by decide +kernel)) (a_cons (b_tuple B (a_cons (b_sorted B (a_cons (e_pk B.cb (by decide +kernel)) (a_nil)) (hg := (by decide +kernel))) (a_nil)) (hg := (by decide +kernel))) (a_nil))))) (s_nil))))
abbrev nm_law_ends : List Str := ["town", "flow", "found", "a", "b", "coins"]
abbrev pa_law_ends : List Str := ["town", "flow"]
def bd_law_ends : List RS := [.asg (.nm 2) (.prim .mul [.prim .lstD [.lit (.int 0)], .prim .idx [.pk 0, .lit (.int 0)]]), .for_ (.tp [.tp [.nm 3, .nm 4], .nm 5]) .zip [.prim .idx [.pk 0, .lit (.int 1)], .pk 1] [.exp (.call 1017 [.pk 2, .prim .sub [.prim .idx [.pk 2, .pk 3], .pk 5], .prim .add [.prim .idx [.pk 2, .pk 4], .pk 5], .pk 3, .pk 4])], .ret (.prim .tuple [.pk 2])]
abbrev tb_law_ends : Tb := ⟨[], [], []⟩
theorem sc_law_ends : FnScope nm_law_ends pa_law_ends (defScope st_law_ends) := ⟨rfl, rfl, rfl, by decide +kernel, rfl, by decide +kernel, by decide +kernel⟩
theorem ck_law_ends {X : Cx} {c : Cn} {m : Am} {T : Txt} {W : WX} (B : BX X c T W nm_law_ends (defScope st_law_ends) (fun _ => true) tb_law_ends) (O : OpsB T) : PSs X (defBody st_law_ends) (rdSs c m T W bd_law_ends) :=
  s_cons (s_set B.cb (by decide +kernel) (n_mul B (e_lst (a_cons (e_int) (a_nil))) (e_idx B.cb (e_pk B.cb (by decide +kernel)) (e_int)))) (s_cons (s_for B.po B.calm (i_zip B.cb (by decide +kernel) (e_idx B.cb (e_pk B.cb (by decide +kernel)) (e_int)) (e_pk B.cb (by decide +kernel))) (g_tup B.calm (gs_cons (g_tup B.calm (gs_cons (g_name B.cb (by decide +kernel)) (gs_cons (g_name B.cb (by decide +kernel)) (gs_nil)))) (gs_cons (g_name B.cb (by decide +kernel)) (gs_nil)))) (s_cons (s_set2 B O.set2.c O.set2.l (by decide +kernel) (by decide +kernel) (by decide +kernel) (a_cons (n_sub B (e_idx B.cb (e_pk B.cb (by decide +kernel)) (e_pk B.cb (by decide +kernel))) (e_pk B.cb (by decide +kernel))) (a_cons (n_add B (e_idx B.cb (e_pk B.cb (by decide +kernel)) (e_pk B.cb (by decide +kernel))) (e_pk B.cb (by decide +kernel))) (a_nil)))) (s_nil))) (s_cons (s_ret (b_tuple B (a_cons (e_pk B.cb (by decide +kernel)) (a_nil)) (hg := (by decide +kernel)))) (s_nil)))
abbrev nm_law_cut : List Str := ["town", "script", "a", "b"]
abbrev pa_law_cut : List Str := ["town", "script"]
def bd_law_cut : List RS := [.ret (.prim .tuple [.comp [2, 3] (.tp [.nm 2, .nm 3]) .seq [.prim .idx [.pk 0, .lit (.int 1)]] [] (.prim .sub [.prim .idx [.pk 1, .pk 2], .prim .idx [.pk 1, .pk 3]])])]
abbrev tb_law_cut : Tb := ⟨[], [], []⟩
theorem sc_law_cut : FnScope nm_law_cut pa_law_cut (defScope st_law_cut) := ⟨rfl, rfl, rfl, by decide +kernel, rfl, by decide +kernel, by decide +kernel⟩
theorem ck_law_cut {X : Cx} {c : Cn} {m : Am} {T : Txt} {W : WX} (B : BX X c T W nm_law_cut (defScope st_law_cut) (fun _ => true) tb_law_cut) : PSs X (defBody st_law_cut) (rdSs c m T W bd_law_cut) :=
  s_cons (s_ret (b_tuple B (a_cons (e_comp (own := [("a", 2), ("b", 3)]) B (i_seq B.cb (e_idx B.cb (e_pk B.cb (by decide +kernel)) (e_int))) (by decide +kernel) (by decide +kernel) (fun _ C1 => g_tup C1.calm (gs_cons (g_name C1.cb (by decide +kernel)) (gs_cons (g_name C1.cb (by decide +kernel)) (gs_nil)))) (fun _ C1 => ts_nil) (fun _ C1 => n_sub C1 (e_idx C1.cb (e_pk C1.cb (by decide +kernel)) (e_pk C1.cb (by decide +kernel))) (e_idx C1.cb (e_pk C1.cb (by decide +kernel)) (e_pk C1.cb (by decide +kernel))))) (a_nil)) (hg := (by decide +kernel)))) (s_nil)
abbrev nm_law_flow : List Str := ["deck", "size", "top", "k"]
abbrev pa_law_flow : List Str := ["deck", "size"]
def bd_law_flow : List RS := [.asg (.nm 2) (.call 112 [.pk 0, .prim .lstD [.lit (.int 1), .lit (.int 3), .lit (.int 9), .lit (.int 1000)]]), .ret (.prim .tuple [.comp [3] (.nm 3) .rng [.pk 1] [] (.prim .sub [.call 111 [.pk 0, .prim .add [.prim .mul [.lit (.int 2), .pk 2], .lit (.int 1)]], .pk 2])])]
abbrev tb_law_flow : Tb := ⟨[(112, "_law_pick"), (111, "_law_draw")], [], []⟩
theorem sc_law_flow : FnScope nm_law_flow pa_law_flow (defScope st_law_flow) := ⟨rfl, rfl, rfl, by decide +kernel, rfl, by decide +kernel, by decide +kernel⟩
theorem ck_law_flow {X : Cx} {c : Cn} {m : Am} {T : Txt} {W : WX} (B : BX X c T W nm_law_flow (defScope st_law_flow) (fun _ => true) tb_law_flow) : PSs X (defBody st_law_flow) (rdSs c m T W bd_law_flow) :=
  s_cons (s_set B.cb (by decide +kernel) (n_call 0 B (by rfl) (by decide +kernel) (a_cons (e_pk B.cb (by decide +kernel)) (a_cons (e_lst (a_cons (e_int) (a_cons (e_int) (a_cons (e_int) (a_cons (e_int) (a_nil)))))) (a_nil))))) (s_cons (s_ret (b_tuple B (a_cons (e_comp (own := [("k", 3)]) B (i_rng1 B.cb (by decide +kernel) (e_pk B.cb (by decide +kernel))) (by decide +kernel) (by decide +kernel) (fun _ C1 => g_name C1.cb (by decide +kernel)) (fun _ C1 => ts_nil) (fun _ C1 => n_sub C1 (n_call 1 C1 (by rfl) (by decide +kernel) (a_cons (e_pk C1.cb (by decide +kernel)) (a_cons (n_add C1 (n_mul C1 (e_int) (e_pk C1.cb (by decide +kernel))) (e_int)) (a_nil)))) (e_pk C1.cb (by decide +kernel)))) (a_nil)) (hg := (by decide +kernel)))) (s_nil))
abbrev nm_law_flow_due : List Str := ["town", "value", "k", "item"]
abbrev pa_law_flow_due : List Str := ["town", "value"]
def bd_law_flow_due : List RS := [.iff (.bop false [.prim .nt [.call 1014 [.pk 1]], .prim .ne [.prim .len [.pk 1], .prim .len [.prim .idx [.pk 0, .lit (.int 1)]]]]) [.ret (.lit (.str "form"))] [], .for_ (.tp [.nm 2, .nm 3]) .enum [.pk 1] [.iff (.bop false [.prim .nt [.call 1011 [.pk 3]], .call 1012 [.pk 3], .prim .gt [.prim .abs [.pk 3], .lit (.int 1000)]]) [.ret (.prim .tupD [.lit (.str "road"), .var 2])] []], .ret (.lit .non)]
abbrev tb_law_flow_due : Tb := ⟨[], [], []⟩
theorem sc_law_flow_due : FnScope nm_law_flow_due pa_law_flow_due (defScope st_law_flow_due) := ⟨rfl, rfl, rfl, by decide +kernel, rfl, by decide +kernel, by decide +kernel⟩
theorem ck_law_flow_due {X : Cx} {c : Cn} {m : Am} {T : Txt} {W : WX} (B : BX X c T W nm_law_flow_due (defScope st_law_flow_due) (fun _ => true) tb_law_flow_due) (O : OpsB T) : PSs X (defBody st_law_flow_due) (rdSs c m T W bd_law_flow_due) :=
  s_cons (s_if ((w_or (t_not (t_val B.cb (e_isi B.cb O.isT.c (by decide +kernel) (by decide +kernel) (by decide) (by decide +kernel) (by decide) (e_pk B.cb (by decide +kernel))))) (w_or1 (t_cmp (op_ne' B) (b_len B (a_cons (e_pk B.cb (by decide +kernel)) (a_nil)) (hg := (by decide +kernel))) (b_len B (a_cons (e_idx B.cb (e_pk B.cb (by decide +kernel)) (e_int)) (a_nil)) (hg := (by decide +kernel)))))).pt) (s_cons (s_ret (e_str)) (s_nil)) (s_nil)) (s_cons (s_for B.po B.calm (i_enum B.cb (by decide +kernel) (e_pk B.cb (by decide +kernel))) (g_tup B.calm (gs_cons (g_name B.cb (by decide +kernel)) (gs_cons (g_name B.cb (by decide +kernel)) (gs_nil)))) (s_cons (s_if ((w_or (t_not (t_val B.cb (e_isi B.cb O.isI.c (by decide +kernel) (by decide +kernel) (by decide) (by decide +kernel) (by decide) (e_pk B.cb (by decide +kernel))))) (w_or (t_val B.cb (e_isi B.cb O.isB.c (by decide +kernel) (by decide +kernel) (by decide) (by decide +kernel) (by decide) (e_pk B.cb (by decide +kernel)))) (w_or1 (t_cmp (op_gt' B) (b_abs B (a_cons (e_pk B.cb (by decide +kernel)) (a_nil)) (hg := (by decide +kernel))) (e_int))))).pt) (s_cons (s_ret (e_tup (a_cons (e_str) (a_cons (e_var B.cb (by decide +kernel)) (a_nil))))) (s_nil)) (s_nil)) (s_nil))) (s_cons (s_ret (e_non)) (s_nil)))
abbrev nm_law_for_due : List Str := ["town", "purse", "value", "item"]
abbrev pa_law_for_due : List Str := ["town", "purse", "value"]
def bd_law_for_due : List RS := [.iff (.bop false [.prim .nt [.call 1014 [.pk 2]], .prim .ne [.prim .len [.pk 2], .prim .len [.prim .idx [.pk 0, .lit (.int 1)]]]]) [.ret (.lit (.str "form"))] [], .iff (.prim .nt [.prim .all_ [.comp [3] (.nm 3) .seq [.pk 2] [] (.bop true [.call 1011 [.pk 3], .prim .nt [.call 1012 [.pk 3]]])]]) [.ret (.lit (.str "form"))] [], .ret (.ifx (.prim .eq [.call 126 [.pk 0, .pk 2], .pk 1]) (.lit .non) (.lit (.str "ends")))]
abbrev tb_law_for_due : Tb := ⟨[(126, "_law_ends")], [], []⟩
theorem sc_law_for_due : FnScope nm_law_for_due pa_law_for_due (defScope st_law_for_due) := ⟨rfl, rfl, rfl, by decide +kernel, rfl, by decide +kernel, by decide +kernel⟩
theorem ck_law_for_due {X : Cx} {c : Cn} {m : Am} {T : Txt} {W : WX} (B : BX X c T W nm_law_for_due (defScope st_law_for_due) (fun _ => true) tb_law_for_due) (O : OpsB T) : PSs X (defBody st_law_for_due) (rdSs c m T W bd_law_for_due) :=
  s_cons (s_if ((w_or (t_not (t_val B.cb (e_isi B.cb O.isT.c (by decide +kernel) (by decide +kernel) (by decide) (by decide +kernel) (by decide) (e_pk B.cb (by decide +kernel))))) (w_or1 (t_cmp (op_ne' B) (b_len B (a_cons (e_pk B.cb (by decide +kernel)) (a_nil)) (hg := (by decide +kernel))) (b_len B (a_cons (e_idx B.cb (e_pk B.cb (by decide +kernel)) (e_int)) (a_nil)) (hg := (by decide +kernel)))))).pt) (s_cons (s_ret (e_str)) (s_nil)) (s_nil)) (s_cons (s_if (t_not (t_val B.cb (b_all B (a_cons (e_comp (own := [("item", 3)]) B (i_seq B.cb (e_pk B.cb (by decide +kernel))) (by decide +kernel) (by decide +kernel) (fun _ C1 => g_name C1.cb (by decide +kernel)) (fun _ C1 => ts_nil) (fun _ C1 => e_and C1.cb (e_isi C1.cb O.isI.c (by decide +kernel) (by decide +kernel) (by decide) (by decide +kernel) (by decide) (e_pk C1.cb (by decide +kernel))) (e_bop1 (e_not C1.cb (e_isi C1.cb O.isB.c (by decide +kernel) (by decide +kernel) (by decide) (by decide +kernel) (by decide) (e_pk C1.cb (by decide +kernel))))))) (a_nil)) (hg := (by decide +kernel))))) (s_cons (s_ret (e_str)) (s_nil)) (s_nil)) (s_cons (s_ret (e_ifx (t_cmp (op_eq' B) (n_call 0 B (by rfl) (by decide +kernel) (a_cons (e_pk B.cb (by decide +kernel)) (a_cons (e_pk B.cb (by decide +kernel)) (a_nil)))) (e_pk B.cb (by decide +kernel))) (e_non) (e_str))) (s_nil)))
abbrev nm_law_bent : List Str := ["deck", "flow", "at", "way", "odd"]
abbrev pa_law_bent : List Str := ["deck", "flow"]
def bd_law_bent : List RS := [.par [2, 3] [.ifx (.prim .ne [.pk 1, .prim .tupD []]) (.call 111 [.pk 0, .prim .len [.pk 1]]) (.lit (.int 0)), .call 111 [.pk 0, .lit (.int 6)]], .iff (.prim .eq [.pk 3, .lit (.int 0)]) [.ret (.prim .add [.prim (.slc false true) [.pk 1, .pk 2], .prim (.slc true false) [.pk 1, .prim .add [.pk 2, .lit (.int 1)]]])] [], .iff (.prim .eq [.pk 3, .lit (.int 1)]) [.ret (.prim .add [.pk 1, .prim .tupD [.lit (.int 0)]])] [], .iff (.prim .eq [.pk 3, .lit (.int 2)]) [.ret (.prim .list [.pk 1])] [], .asg (.nm 4) (.prim .lstD [.lit (.bl true), .lit .non, .lit (.str "1"), .lit (.int 1001), .prim .neg [.lit (.int 1001)], .lit (.int 1000), .prim .neg [.lit (.int 1000)], .prim .tupD [.lit (.int 1)], .prim .pow [.lit (.int 10), .lit (.int 50)], .call 125 [.pk 0, .lit (.int 2)]]), .app 4 (.ifx (.prim .ne [.pk 1, .prim .tupD []]) (.prim .add [.prim .idx [.pk 1, .pk 2], .lit (.int 1)]) (.lit (.int 0))), .ret (.prim .add [.prim .add [.prim (.slc false true) [.pk 1, .pk 2], .prim .tupD [.call 112 [.pk 0, .var 4]]], .prim (.slc true false) [.pk 1, .prim .add [.pk 2, .lit (.int 1)]]])]
abbrev tb_law_bent : Tb := ⟨[(111, "_law_draw"), (125, "_law_any"), (112, "_law_pick")], [], []⟩
theorem sc_law_bent : FnScope nm_law_bent pa_law_bent (defScope st_law_bent) := ⟨rfl, rfl, rfl, by decide +kernel, rfl, by decide +kernel, by decide +kernel⟩
theorem ck_law_bent {X : Cx} {c : Cn} {m : Am} {T : Txt} {W : WX} (B : BX X c T W nm_law_bent (defScope st_law_bent) (fun _ => true) tb_law_bent) : PSs X (defBody st_law_bent) (rdSs c m T W bd_law_bent) :=
  s_cons (s_par2 B (by decide +kernel) (by decide +kernel) (by decide) (a_cons (e_ifx (t_cmp (op_ne' B) (e_pk B.cb (by decide +kernel)) (e_tup (a_nil))) (n_call 0 B (by rfl) (by decide +kernel) (a_cons (e_pk B.cb (by decide +kernel)) (a_cons (b_len B (a_cons (e_pk B.cb (by decide +kernel)) (a_nil)) (hg := (by decide +kernel))) (a_nil)))) (e_int)) (a_cons (n_call 0 B (by rfl) (by decide +kernel) (a_cons (e_pk B.cb (by decide +kernel)) (a_cons (e_int) (a_nil)))) (a_nil))) (sw2 (i := 2) (j := 3) B.cb (by decide +kernel) (by decide +kernel) (by rfl) (by decide +kernel) (by rfl) (by rfl))) (s_cons (s_if (t_cmp (op_eq' B) (e_pk B.cb (by decide +kernel)) (e_int)) (s_cons (s_ret (n_add B (e_sl01 B.cb (e_pk B.cb (by decide +kernel)) (e_pk B.cb (by decide +kernel))) (e_sl10 B.cb (e_pk B.cb (by decide +kernel)) (n_add B (e_pk B.cb (by decide +kernel)) (e_int))))) (s_nil)) (s_nil)) (s_cons (s_if (t_cmp (op_eq' B) (e_pk B.cb (by decide +kernel)) (e_int)) (s_cons (s_ret (n_add B (e_pk B.cb (by decide +kernel)) (e_tup (a_cons (e_int) (a_nil))))) (s_nil)) (s_nil)) (s_cons (s_if (t_cmp (op_eq' B) (e_pk B.cb (by decide +kernel)) (e_int)) (s_cons (s_ret (b_list B (a_cons (e_pk B.cb (by decide +kernel)) (a_nil)) (hg := (by decide +kernel)))) (s_nil)) (s_nil)) (s_cons (s_set B.cb (by decide +kernel) (e_lst (a_cons (e_bl) (a_cons (e_non) (a_cons (e_str) (a_cons (e_int) (a_cons (e_neg (e_int)) (a_cons (e_int) (a_cons (e_neg (e_int)) (a_cons (e_tup (a_cons (e_int) (a_nil))) (a_cons (n_pow B (e_int) (e_int)) (a_cons (n_call 1 B (by rfl) (by decide +kernel) (a_cons (e_pk B.cb (by decide +kernel)) (a_cons (e_int) (a_nil)))) (a_nil))))))))))))) (s_cons (s_app B.cb (by decide +kernel) (e_ifx (t_cmp (op_ne' B) (e_pk B.cb (by decide +kernel)) (e_tup (a_nil))) (n_add B (e_idx B.cb (e_pk B.cb (by decide +kernel)) (e_pk B.cb (by decide +kernel))) (e_int)) (e_int))) (s_cons (s_ret (n_add B (n_add B (e_sl01 B.cb (e_pk B.cb (by decide +kernel)) (e_pk B.cb (by decide +kernel))) (e_tup (a_cons (n_call 2 B (by rfl) (by decide +kernel) (a_cons (e_pk B.cb (by decide +kernel)) (a_cons (e_var B.cb (by decide +kernel)) (a_nil)))) (a_nil)))) (e_sl10 B.cb (e_pk B.cb (by decide +kernel)) (n_add B (e_pk B.cb (by decide +kernel)) (e_int))))) (s_nil)))))))
abbrev nm_law_told : List Str := ["town", "purse", "is_named"]
abbrev pa_law_told : List Str := ["town", "purse", "is_named"]
def bd_law_told : List RS := [.tri [.ret (.ifx (.pk 2) (.call 105 [.pk 0, .pk 1]) (.call 105 [.pk 0, .pk 1]))] [(1, none, [.ret (.lit (.str "unfit"))])]]
abbrev tb_law_told : Tb := ⟨[(105, "flow_for")], [(105, "flow_for", ["purse", "town"], [1, 0])], []⟩
theorem sc_law_told : FnScope nm_law_told pa_law_told (defScope st_law_told) := ⟨rfl, rfl, rfl, by decide +kernel, rfl, by decide +kernel, by decide +kernel⟩
theorem ck_law_told {X : Cx} {c : Cn} {m : Am} {T : Txt} {W : WX} (B : BX X c T W nm_law_told (defScope st_law_told) (fun _ => true) tb_law_told) (G : EM X.prog X.K X.mg c T xl) (hst : X.stack = X.env :: X.outer) (hfr : X.env.frame = some X.env.locals) (hxa : m.xa = none) : PSs X (defBody st_law_told) (rdSs c m T W bd_law_told) :=
  s_cons (x_tri B G hst hfr hxa (by rfl) (fun Y _ V => s_cons (s_ret (e_ifx (t_val V.cb (e_pk V.cb (by decide +kernel))) (n_callK 0 (fwd := [1, 0]) V (by rfl) (by decide +kernel) (by rfl) (k_cons (u_pk (i := 1) V.cb (by decide +kernel)) (k_cons (u_pk (i := 0) V.cb (by decide +kernel)) (k_nil))) (by rfl) (by decide) (by decide) (by decide) (by rfl)) (n_call 0 V (by rfl) (by decide +kernel) (a_cons (e_pk V.cb (by decide +kernel)) (a_cons (e_pk V.cb (by decide +kernel)) (a_nil)))))) (s_nil)) (.cons0 (x_names 1 B.cb G (by rfl) (by decide +kernel)) (fun a oe cls d pn hz hv S => s_cons (s_ret (e_str)) (s_nil)) (.nil))) (s_nil)
abbrev nm_law_is_town_right : List Str := ["deck", "town", "size", "kept", "flow", "script", "purse", "told", "is_named", "own", "money_v", "odd", "some", "k", "value", "wanted", "dues", "shown", "v", "item"]
abbrev pa_law_is_town_right : List Str := ["deck", "town"]
def bd_law_is_town_right : List RS := [.par [2, 3] [.prim .len [.prim .idx [.pk 1, .lit (.int 1)]], .prim .repr_ [.pk 1]], .par [4, 5] [.call 128 [.pk 0, .pk 2], .prim .tuple [.comp [18] (.nm 18) .rng [.prim .idx [.pk 1, .lit (.int 0)]] [] (.prim .sub [.call 111 [.pk 0, .lit (.int 2001)], .lit (.int 1000)])]], .asg (.nm 6) (.call 126 [.pk 1, .pk 4]), .asg (.nm 7) (.prim .lstD [.call 102 [.pk 1, .pk 4], .call 102 [.pk 1, .pk 4], .call 103 [.pk 1, .pk 5], .call 103 [.pk 1, .pk 5]]), .iff (.prim .ne [.prim .repr_ [.pk 7], .prim .repr_ [.prim .lstD [.var 6, .var 6, .call 127 [.pk 1, .pk 5], .call 127 [.pk 1, .pk 5]]]]) [.ret (.lit (.bl false))] [], .iff (.prim .le [.call 1002 [.comp [19] (.nm 19) .seq [.pk 6] [] (.prim .abs [.pk 19])], .lit (.int 1000)]) [.for_ (.nm 8) .seq [.prim .tupD [.lit (.bl false), .lit (.bl true)]] [.asg (.nm 9) (.call 132 [.pk 1, .pk 6, .pk 8]), .iff (.bop false [.prim .isn [.call 130 [.pk 1, .pk 6, .pk 9], .lit .non], .prim .isn [.call 124 [.pk 1, .pk 6, .pk 9], .lit .non]]) [.ret (.lit (.bl false))] []]] [], .asg (.nm 10) (.call 112 [.pk 0, .prim .lstD [.prim .neg [.lit (.int 3)], .prim .neg [.lit (.int 2)], .prim .neg [.lit (.int 1)], .lit (.int 1), .lit (.int 2), .lit (.int 3)]]), .asg (.nm 11) (.prim .tuple [.comp [18] (.nm 18) .rng [.prim .sub [.prim .idx [.pk 1, .lit (.int 0)], .lit (.int 1)]] [] (.prim .sub [.call 111 [.pk 0, .lit (.int 7)], .lit (.int 3)])]), .for_ (.nm 12) .seq [.prim .tupD [.prim .add [.prim .tupD [.prim .sub [.pk 10, .call 1000 [.pk 11]]], .pk 11], .prim .add [.call 1003 [.prim .tupD [.lit (.int 0)], .prim .sub [.prim .idx [.pk 1, .lit (.int 0)], .lit (.int 1)]], .prim .tupD [.call 112 [.pk 0, .prim .lstD [.prim .neg [.lit (.int 1000)], .lit (.int 1000)]]]]]] [.iff (.prim .ne [.call 132 [.pk 1, .pk 12, .lit (.bl false)], .lit (.str "unfit")]) [.ret (.lit (.bl false))] []], .for_ (.tp [.nm 13, .nm 14]) .enum [.prim .lstD [.var 4, .call 131 [.pk 0, .pk 4], .call 131 [.pk 0, .pk 4], .call 125 [.pk 0, .lit (.int 4)], .prim .tupD []]] [.asg (.nm 15) (.prim .tuple [.comp [19] (.nm 19) .seq [.pk 6] [] (.prim .max2 [.prim .neg [.lit (.int 1000)], .prim .min2 [.lit (.int 1000), .pk 19]])]), .par [16, 17] [.prim .lstD [.call 129 [.pk 1, .pk 14], .call 130 [.pk 1, .pk 15, .pk 14]], .prim .repr_ [.pk 14]], .asg (.nm 7) (.prim .lstD [.call 123 [.pk 1, .pk 14], .call 124 [.pk 1, .pk 15, .pk 14]]), .iff (.prim .eq [.pk 13, .lit (.int 1)]) [.asg (.nm 7) (.prim .lstD [.call 123 [.pk 1, .pk 14], .call 124 [.pk 1, .pk 15, .pk 14]])] [], .iff (.bop false [.prim .ne [.prim .repr_ [.pk 7], .prim .repr_ [.pk 16]], .prim .ne [.prim .repr_ [.pk 14], .pk 17]]) [.ret (.lit (.bl false))] []], .ret (.prim .eq [.prim .repr_ [.pk 1], .pk 3])]
abbrev tb_law_is_town_right : Tb := ⟨[(128, "_law_flow"), (111, "_law_draw"), (126, "_law_ends"), (102, "ends"), (103, "cut_flow"), (127, "_law_cut"), (132, "_law_told"), (130, "_law_for_due"), (124, "flow_for_error"), (112, "_law_pick"), (131, "_law_bent"), (125, "_law_any"), (129, "_law_flow_due"), (123, "flow_error")], [(102, "ends", ["flow", "town"], [1, 0]), (103, "cut_flow", ["script", "town"], [1, 0]), (123, "flow_error", ["value", "town"], [1, 0]), (124, "flow_for_error", ["value", "purse", "town"], [2, 1, 0])], []⟩
theorem sc_law_is_town_right : FnScope nm_law_is_town_right pa_law_is_town_right (defScope st_law_is_town_right) := ⟨rfl, rfl, rfl, by decide +kernel, rfl, by decide +kernel, by decide +kernel⟩
theorem ck_law_is_town_right {X : Cx} {c : Cn} {m : Am} {T : Txt} {W : WX} (B : BX X c T W nm_law_is_town_right (defScope st_law_is_town_right) (fun _ => true) tb_law_is_town_right) (O : OpsB T) : PSs X (defBody st_law_is_town_right) (rdSs c m T W bd_law_is_town_right) :=
  s_cons (s_par2 B (by decide +kernel) (by decide +kernel) (by decide) (a_cons (b_len B (a_cons (e_idx B.cb (e_pk B.cb (by decide +kernel)) (e_int)) (a_nil)) (hg := (by decide +kernel))) (a_cons (b_repr B (a_cons (e_pk B.cb (by decide +kernel)) (a_nil)) (hg := (by decide +kernel))) (a_nil))) (sw2 (i := 2) (j := 3) B.cb (by decide +kernel) (by decide +kernel) (by rfl) (by decide +kernel) (by rfl) (by rfl))) (s_cons (s_par2 B (by decide +kernel) (by decide +kernel) (by decide) (a_cons (n_call 0 B (by rfl) (by decide +kernel) (a_cons (e_pk B.cb (by decide +kernel)) (a_cons (e_pk B.cb (by decide +kernel)) (a_nil)))) (a_cons (b_tuple B (a_cons (e_comp (own := [("v", 18)]) B (i_rng1 B.cb (by decide +kernel) (e_idx B.cb (e_pk B.cb (by decide +kernel)) (e_int))) (by decide +kernel) (by decide +kernel) (fun _ C1 => g_name C1.cb (by decide +kernel)) (fun _ C1 => ts_nil) (fun _ C1 => n_sub C1 (n_call 1 C1 (by rfl) (by decide +kernel) (a_cons (e_pk C1.cb (by decide +kernel)) (a_cons (e_int) (a_nil)))) (e_int))) (a_nil)) (hg := (by decide +kernel))) (a_nil))) (sw2 (i := 4) (j := 5) B.cb (by decide +kernel) (by decide +kernel) (by rfl) (by decide +kernel) (by rfl) (by rfl))) (s_cons (s_set B.cb (by decide +kernel) (n_call 2 B (by rfl) (by decide +kernel) (a_cons (e_pk B.cb (by decide +kernel)) (a_cons (e_pk B.cb (by decide +kernel)) (a_nil))))) (s_cons (s_set B.cb (by decide +kernel) (e_lst (a_cons (n_call 3 B (by rfl) (by decide +kernel) (a_cons (e_pk B.cb (by decide +kernel)) (a_cons (e_pk B.cb (by decide +kernel)) (a_nil)))) (a_cons (n_callK 0 (fwd := [1, 0]) B (by rfl) (by decide +kernel) (by rfl) (k_cons (u_pk (i := 4) B.cb (by decide +kernel)) (k_cons (u_pk (i := 1) B.cb (by decide +kernel)) (k_nil))) (by rfl) (by decide) (by decide) (by decide) (by rfl)) (a_cons (n_call 4 B (by rfl) (by decide +kernel) (a_cons (e_pk B.cb (by decide +kernel)) (a_cons (e_pk B.cb (by decide +kernel)) (a_nil)))) (a_cons (n_callK 1 (fwd := [1, 0]) B (by rfl) (by decide +kernel) (by rfl) (k_cons (u_pk (i := 5) B.cb (by decide +kernel)) (k_cons (u_pk (i := 1) B.cb (by decide +kernel)) (k_nil))) (by rfl) (by decide) (by decide) (by decide) (by rfl)) (a_nil))))))) (s_cons (s_if (t_cmp (op_ne' B) (b_repr B (a_cons (e_pk B.cb (by decide +kernel)) (a_nil)) (hg := (by decide +kernel))) (b_repr B (a_cons (e_lst (a_cons (e_var B.cb (by decide +kernel)) (a_cons (e_var B.cb (by decide +kernel)) (a_cons (n_call 5 B (by rfl) (by decide +kernel) (a_cons (e_pk B.cb (by decide +kernel)) (a_cons (e_pk B.cb (by decide +kernel)) (a_nil)))) (a_cons (n_call 5 B (by rfl) (by decide +kernel) (a_cons (e_pk B.cb (by decide +kernel)) (a_cons (e_pk B.cb (by decide +kernel)) (a_nil)))) (a_nil)))))) (a_nil)) (hg := (by decide +kernel)))) (s_cons (s_ret (e_bl)) (s_nil)) (s_nil)) (s_cons (s_if (t_cmp (op_le' B) (bi_op B.cb O.max.c (x_max B.calm) (by decide +kernel) (by decide) (by decide +kernel) (by decide) (a_cons (e_comp (own := [("item", 19)]) B (i_seq B.cb (e_pk B.cb (by decide +kernel))) (by decide +kernel) (by decide +kernel) (fun _ C1 => g_name C1.cb (by decide +kernel)) (fun _ C1 => ts_nil) (fun _ C1 => b_abs C1 (a_cons (e_pk C1.cb (by decide +kernel)) (a_nil)) (hg := (by decide +kernel)))) (a_nil))) (e_int)) (s_cons (s_for B.po B.calm (i_seq B.cb (e_tup (a_cons (e_bl) (a_cons (e_bl) (a_nil))))) (g_name B.cb (by decide +kernel)) (s_cons (s_set B.cb (by decide +kernel) (n_call 6 B (by rfl) (by decide +kernel) (a_cons (e_pk B.cb (by decide +kernel)) (a_cons (e_pk B.cb (by decide +kernel)) (a_cons (e_pk B.cb (by decide +kernel)) (a_nil)))))) (s_cons (s_if ((w_or (t_cmp (op_isn' B) (n_call 7 B (by rfl) (by decide +kernel) (a_cons (e_pk B.cb (by decide +kernel)) (a_cons (e_pk B.cb (by decide +kernel)) (a_cons (e_pk B.cb (by decide +kernel)) (a_nil))))) (e_non)) (w_or1 (t_cmp (op_isn' B) (n_call 8 B (by rfl) (by decide +kernel) (a_cons (e_pk B.cb (by decide +kernel)) (a_cons (e_pk B.cb (by decide +kernel)) (a_cons (e_pk B.cb (by decide +kernel)) (a_nil))))) (e_non)))).pt) (s_cons (s_ret (e_bl)) (s_nil)) (s_nil)) (s_nil)))) (s_nil)) (s_nil)) (s_cons (s_set B.cb (by decide +kernel) (n_call 9 B (by rfl) (by decide +kernel) (a_cons (e_pk B.cb (by decide +kernel)) (a_cons (e_lst (a_cons (e_neg (e_int)) (a_cons (e_neg (e_int)) (a_cons (e_neg (e_int)) (a_cons (e_int) (a_cons (e_int) (a_cons (e_int) (a_nil)))))))) (a_nil))))) (s_cons (s_set B.cb (by decide +kernel) (b_tuple B (a_cons (e_comp (own := [("v", 18)]) B (i_rng1 B.cb (by decide +kernel) (n_sub B (e_idx B.cb (e_pk B.cb (by decide +kernel)) (e_int)) (e_int))) (by decide +kernel) (by decide +kernel) (fun _ C1 => g_name C1.cb (by decide +kernel)) (fun _ C1 => ts_nil) (fun _ C1 => n_sub C1 (n_call 1 C1 (by rfl) (by decide +kernel) (a_cons (e_pk C1.cb (by decide +kernel)) (a_cons (e_int) (a_nil)))) (e_int))) (a_nil)) (hg := (by decide +kernel)))) (s_cons (s_for B.po B.calm (i_seq B.cb (e_tup (a_cons (n_add B (e_tup (a_cons (n_sub B (e_pk B.cb (by decide +kernel)) (bi_op B.cb O.sum.c (x_sum B.calm) (by decide +kernel) (by decide) (by decide +kernel) (by decide) (a_cons (e_pk B.cb (by decide +kernel)) (a_nil)))) (a_nil))) (e_pk B.cb (by decide +kernel))) (a_cons (n_add B (bin_op O.mulT.c x_mulT (e_tup (a_cons (e_int) (a_nil))) (n_sub B (e_idx B.cb (e_pk B.cb (by decide +kernel)) (e_int)) (e_int))) (e_tup (a_cons (n_call 9 B (by rfl) (by decide +kernel) (a_cons (e_pk B.cb (by decide +kernel)) (a_cons (e_lst (a_cons (e_neg (e_int)) (a_cons (e_int) (a_nil)))) (a_nil)))) (a_nil)))) (a_nil))))) (g_name B.cb (by decide +kernel)) (s_cons (s_if (t_cmp (op_ne' B) (n_call 6 B (by rfl) (by decide +kernel) (a_cons (e_pk B.cb (by decide +kernel)) (a_cons (e_pk B.cb (by decide +kernel)) (a_cons (e_bl) (a_nil))))) (e_str)) (s_cons (s_ret (e_bl)) (s_nil)) (s_nil)) (s_nil))) (s_cons (s_for B.po B.calm (i_enum B.cb (by decide +kernel) (e_lst (a_cons (e_var B.cb (by decide +kernel)) (a_cons (n_call 10 B (by rfl) (by decide +kernel) (a_cons (e_pk B.cb (by decide +kernel)) (a_cons (e_pk B.cb (by decide +kernel)) (a_nil)))) (a_cons (n_call 10 B (by rfl) (by decide +kernel) (a_cons (e_pk B.cb (by decide +kernel)) (a_cons (e_pk B.cb (by decide +kernel)) (a_nil)))) (a_cons (n_call 11 B (by rfl) (by decide +kernel) (a_cons (e_pk B.cb (by decide +kernel)) (a_cons (e_int) (a_nil)))) (a_cons (e_tup (a_nil)) (a_nil)))))))) (g_tup B.calm (gs_cons (g_name B.cb (by decide +kernel)) (gs_cons (g_name B.cb (by decide +kernel)) (gs_nil)))) (s_cons (s_set B.cb (by decide +kernel) (b_tuple B (a_cons (e_comp (own := [("item", 19)]) B (i_seq B.cb (e_pk B.cb (by decide +kernel))) (by decide +kernel) (by decide +kernel) (fun _ C1 => g_name C1.cb (by decide +kernel)) (fun _ C1 => ts_nil) (fun _ C1 => b_max2 C1 (a_cons (e_neg (e_int)) (a_cons (b_min2 C1 (a_cons (e_int) (a_cons (e_pk C1.cb (by decide +kernel)) (a_nil))) (hg := (by decide +kernel))) (a_nil))) (hg := (by decide +kernel)))) (a_nil)) (hg := (by decide +kernel)))) (s_cons (s_par2 B (by decide +kernel) (by decide +kernel) (by decide) (a_cons (e_lst (a_cons (n_call 12 B (by rfl) (by decide +kernel) (a_cons (e_pk B.cb (by decide +kernel)) (a_cons (e_pk B.cb (by decide +kernel)) (a_nil)))) (a_cons (n_call 7 B (by rfl) (by decide +kernel) (a_cons (e_pk B.cb (by decide +kernel)) (a_cons (e_pk B.cb (by decide +kernel)) (a_cons (e_pk B.cb (by decide +kernel)) (a_nil))))) (a_nil)))) (a_cons (b_repr B (a_cons (e_pk B.cb (by decide +kernel)) (a_nil)) (hg := (by decide +kernel))) (a_nil))) (sw2 (i := 16) (j := 17) B.cb (by decide +kernel) (by decide +kernel) (by rfl) (by decide +kernel) (by rfl) (by rfl))) (s_cons (s_set B.cb (by decide +kernel) (e_lst (a_cons (n_call 13 B (by rfl) (by decide +kernel) (a_cons (e_pk B.cb (by decide +kernel)) (a_cons (e_pk B.cb (by decide +kernel)) (a_nil)))) (a_cons (n_call 8 B (by rfl) (by decide +kernel) (a_cons (e_pk B.cb (by decide +kernel)) (a_cons (e_pk B.cb (by decide +kernel)) (a_cons (e_pk B.cb (by decide +kernel)) (a_nil))))) (a_nil))))) (s_cons (s_if (t_cmp (op_eq' B) (e_pk B.cb (by decide +kernel)) (e_int)) (s_cons (s_set B.cb (by decide +kernel) (e_lst (a_cons (n_callK 2 (fwd := [1, 0]) B (by rfl) (by decide +kernel) (by rfl) (k_cons (u_pk (i := 14) B.cb (by decide +kernel)) (k_cons (u_pk (i := 1) B.cb (by decide +kernel)) (k_nil))) (by rfl) (by decide) (by decide) (by decide) (by rfl)) (a_cons (n_callK 3 (fwd := [2, 1, 0]) B (by rfl) (by decide +kernel) (by rfl) (k_cons (u_pk (i := 14) B.cb (by decide +kernel)) (k_cons (u_pk (i := 15) B.cb (by decide +kernel)) (k_cons (u_pk (i := 1) B.cb (by decide +kernel)) (k_nil)))) (by rfl) (by decide) (by decide) (by decide) (by rfl)) (a_nil))))) (s_nil)) (s_nil)) (s_cons (s_if ((w_or (t_cmp (op_ne' B) (b_repr B (a_cons (e_pk B.cb (by decide +kernel)) (a_nil)) (hg := (by decide +kernel))) (b_repr B (a_cons (e_pk B.cb (by decide +kernel)) (a_nil)) (hg := (by decide +kernel)))) (w_or1 (t_cmp (op_ne' B) (b_repr B (a_cons (e_pk B.cb (by decide +kernel)) (a_nil)) (hg := (by decide +kernel))) (e_pk B.cb (by decide +kernel))))).pt) (s_cons (s_ret (e_bl)) (s_nil)) (s_nil)) (s_nil))))))) (s_cons (s_ret (e_cmp (op_eq' B) (b_repr B (a_cons (e_pk B.cb (by decide +kernel)) (a_nil)) (hg := (by decide +kernel))) (e_pk B.cb (by decide +kernel)))) (s_nil)))))))))))
abbrev nm_law : List Str := ["script", "deck", "turn"]
abbrev pa_law : List Str := ["script"]
def bd_law : List RS := [.asg (.nm 1) (.call 110 [.pk 0]), .for_ (.nm 2) .rng [.lit (.int 3)] [.iff (.prim .nt [.call 133 [.pk 1, .call 113 [.pk 1, .call 112 [.pk 1, .prim .lstD [.lit (.int 8), .lit (.int 4), .lit (.int 2)]], .lit (.int 6)]]]) [.ret (.lit (.bl false))] []], .ret (.lit (.bl true))]
abbrev tb_law : Tb := ⟨[(110, "_law_deck"), (133, "_law_is_town_right"), (113, "_law_town"), (112, "_law_pick")], [], []⟩
theorem sc_law : FnScope nm_law pa_law (defScope st_law) := ⟨rfl, rfl, rfl, by decide +kernel, rfl, by decide +kernel, by decide +kernel⟩
theorem ck_law {X : Cx} {c : Cn} {m : Am} {T : Txt} {W : WX} (B : BX X c T W nm_law (defScope st_law) (fun _ => true) tb_law) : PSs X (defBody st_law) (rdSs c m T W bd_law) :=
  s_cons (s_set B.cb (by decide +kernel) (n_call 0 B (by rfl) (by decide +kernel) (a_cons (e_pk B.cb (by decide +kernel)) (a_nil)))) (s_cons (s_for B.po B.calm (i_rng1 B.cb (by decide +kernel) (e_int)) (g_name B.cb (by decide +kernel)) (s_cons (s_if (t_not (t_val B.cb (n_call 1 B (by rfl) (by decide +kernel) (a_cons (e_pk B.cb (by decide +kernel)) (a_cons (n_call 2 B (by rfl) (by decide +kernel) (a_cons (e_pk B.cb (by decide +kernel)) (a_cons (n_call 3 B (by rfl) (by decide +kernel) (a_cons (e_pk B.cb (by decide +kernel)) (a_cons (e_lst (a_cons (e_int) (a_cons (e_int) (a_cons (e_int) (a_nil))))) (a_nil)))) (a_cons (e_int) (a_nil))))) (a_nil)))))) (s_cons (s_ret (e_bl)) (s_nil)) (s_nil)) (s_nil))) (s_cons (s_ret (e_bl)) (s_nil)))
end K79
end
section
open PySem PySem.Spec L2 DL TW G
set_option Elab.async false
set_option linter.all false
set_option maxRecDepth 100000
set_option maxHeartbeats 3900000
namespace K79
local macro_rules | `(tactic| simp! [$ls,*]) => `(tactic| (simp (config := {dsimp := false, failIfUnchanged := false}) only [List.take_succ_cons, List.take_zero, List.drop_succ_cons, List.drop_zero, restore, unlocks, unlockS, locks, lockS, hold_ap, mkR, DL.fresh, outsOk, borrows, backs, backS, lend1, hasN, lentOf, namedOf, allClean, Sl.clean, cleanN, cleanN.cleans, exClean, imm, imms, List.foldl_nil, List.foldl_cons, List.getElem?_cons_succ, List.getElem?_cons_zero, List.set_cons_succ, List.set_cons_zero, reduceIte, ite_true, if_true, if_false, Bool.false_eq_true, reduceCtorEq, Bool.true_and, Bool.and_true, Bool.or_true, Bool.true_or, Bool.or_false, Bool.false_or, Bool.not_false, Bool.not_true, Nat.reduceBEq, beq_self_eq_true, true_and, and_true]; simp (config := {dsimp := false, failIfUnchanged := false}) only [↓w_lit, ↓w_glb, ↓w_var, ↓w_mv, ↓w_pk, ↓w_fld, ↓w_prim, ↓w_chn, ↓w_bop, ↓w_ifx, ↓w_call, ↓w_nil, ↓w_cons, ↓w_b1, ↓w_b2, ↓w_t0, ↓w_t1, ↓k_asg, ↓k_par, ↓k_setx, ↓k_app, ↓k_ext, ↓k_exp, ↓k_ret, ↓k_ret0, ↓k_pas, ↓k_iff, ↓k_rse0, ↓k_rse1, ↓k_tri, ↓k_s0, ↓k_s1, ↓k_for, ↓k_h0, ↓k_h1, ↓h_comp, ↓w_pop, ↓r_srcE, ↓r_srcZ, ↓r_in, ↓r_nin, ↓r_sl11, keyI_hold, keyS_hold, ↓r_op1, ↓r_op2, ↓sum_l, ↓sum_t, ↓r_mulT, ↓r_dK1, ↓r_lrng, ↓r_nne, ↓r_nhas, ↓r_napp, ↓r_isi, ↓r_set2, ↓r_okPk, ↓r_okL, ↓r_primQ, ↓r_prim0, ↓r_nestQ, ↓r_tstQ, ↓r_truQ, ↓r_asgN, ↓r_asgT, ↓r_srcQ, ↓r_srcS, ↓r_srcR, ↓r_srcR2, ↓r_setxQ, ↓r_modQ, ↓r_appQ, ↓r_extQ, ↓r_retQ, ↓r_callL, argsS, argS, lend1, hasN, lentOf, namedOf, Nat.reduceBEq, beq_self_eq_true, Bool.not_false, Bool.not_true, ↓r_pAdd, ↓r_pMul, ↓r_p2I, ↓r_sub, ↓r_fdiv, ↓r_mod, ↓r_pow, ↓r_le, ↓r_gt, ↓r_ge, ↓r_neg, ↓r_nt, ↓r_eq, ↓r_ne, ↓r_lt, ↓r_idx, ↓r_pSl, ↓r_sl00, ↓r_sl10, ↓r_sl01, ↓r_rev, ↓r_len, ↓r_abs, ↓r_min2, ↓r_max2, ↓r_sum, ↓r_all, ↓r_any, ↓r_pInts, ↓r_pBls, ↓r_int, ↓r_bool, ↓r_str, ↓r_repr, ↓r_tuple, ↓r_list, ↓r_tupD, ↓r_lstD, ↓r_dK0, ↓r_dT0, some_hold, ints_hold, dat_cons, dat_nil, q_ii, q_ss, q_bb, v_ii, v_bb, v_ss, ln0, ln1, ln2, ln3, ln4, ln5, ln6, ln7, ln8, nestK, rzs, Sl.rz, okr, isDisp, Rz.flat, Rz.dat, Rz.isFr, setS, setAll, f_no, f_v, f_o, Sl.val, mkR, DL.fresh, seqOf, locks, unlocks, lockS, unlockS, imm, imms, immR, List.foldl_nil, List.foldl_cons, List.getElem?_cons_succ, List.getElem?_cons_zero, List.set_cons_succ, List.set_cons_zero, true_and, and_true, if_true, ite_true, if_false, List.all_cons, List.all_nil, Bool.and_true, Bool.true_and, Bool.or_true, Bool.true_or, Bool.or_false, Bool.false_or, reduceCtorEq, reduceIte, Bool.false_eq_true, $ls,*]))
local macro_rules | `(tactic| dsimp! [$ls,*]) => `(tactic| refine ⟨_, (by simp (config := {dsimp := false}) only [clr_eq, bindT, bindTs, setS, f_no, f_v, f_o, List.foldl_nil, List.foldl_cons, List.getElem?_cons_succ, List.getElem?_cons_zero, List.set_cons_succ, List.set_cons_zero, if_true, ite_true, reduceIte, $ls,*] <;> first | done | exact rfl), ?_⟩)
/-- what one comes to -/
def reachedC : Ctr where
  run := fun ss Q _ => ∃ (n u : Nat) (d : D) (es : List (Nat × Nat)), ss = [.v (.int (n : Nat)), .v d, .v (.int (u : Nat))] ∧ SeqD d (es.map roadD) ∧ (∀ r ∈ es, r.1 < n ∧ r.2 < n) ∧ u < n ∧ n ≤ 1000 ∧ Q (.o 0 (.lst (natsD (reachF n es u)))) [.no, .no, .no]
  mono := fun {ss Q Q' E E'} ⟨n, u, d, es, h1, h2, h3, h4, h5, h6⟩ hq _ => ⟨n, u, d, es, h1, h2, h3, h4, h5, hq _ _ h6⟩
structure Dfs (n u : Nat) (es : List (Nat × Nat)) (ks ws : List Nat) : Prop where
  nd : ks.Nodup
  lt : ∀ k ∈ ks, k < n
  sub : ∀ k ∈ ws, k ∈ ks
  le : ws.length ≤ ks.length
  src : u ∈ ks
  conn : ∀ k ∈ ks, Conn es u k
theorem dfs_add {n u : Nat} {es : List (Nat × Nat)} {ks ws : List Nat} (h : Dfs n u es ks ws) {v : Nat} (hv : v < n) (hn : v ∉ ks) (hc : Conn es u v) : Dfs n u es (ks ++ [v]) (ws ++ [v]) where
  nd := by
    rw [List.nodup_append]
    exact ⟨h.nd, by simp, fun a ha b hb e => by rw [List.mem_singleton] at hb; exact hn (by rw [← hb, ← e]; exact ha)⟩
  lt := fun k hk => by
    rcases List.mem_append.mp hk with h1 | h1
    · exact h.lt k h1
    · rw [List.mem_singleton] at h1; rw [h1]; exact hv
  sub := fun k hk => by
    rcases List.mem_append.mp hk with h1 | h1
    · exact List.mem_append_left _ (h.sub k h1)
    · exact List.mem_append_right _ h1
  le := by simp; exact h.le
  src := List.mem_append_left _ h.src
  conn := fun k hk => by
    rcases List.mem_append.mp hk with h1 | h1
    · exact h.conn k h1
    · rw [List.mem_singleton] at h1; rw [h1]; exact hc
theorem wp_reached {T : Txt} (O : Ops T) : reachedC.Le (ctrOf T 3 7 bd_reached) := by
  rintro ss Q E ⟨n, u, d, es, rfl, hd, hr, hu, hn, q⟩
  refine ⟨rfl, ?_⟩
  dsimp only [bd_reached]
  show wpSs _ _ [_, _, _, _, _, _, _, _, _, _] _
  refine seq_at 2 (fun e => ∃ (ks : List Nat) (x5 x6 x7 x8 : Sl), (∀ v, v ∈ ks ↔ v < n ∧ Conn es u v) ∧ e = [.v (.int (n : Nat)), .v d, .v (.int (u : Nat)), .o 0 (keysD ks), .o 0 (.lst []), x5, x6, x7, x8, .no]) ?_ ?_
  · refine seq_at 1 (fun e => e = [.v (.int (n : Nat)), .v d, .v (.int (u : Nat)), .o 0 (keysD [u]), .o 0 (.lst (natsD [u])), .no, .no, .no, .no, .no]) ?_ ?_
    · simp! [↓O.dK1.call]
      simp! []
      rfl
    · rintro e rfl
      refine whl_inv (fun m e => ∃ (ks ws : List Nat) (x5 x6 x7 x8 : Sl), ((x5.free = true ∧ x6.free = true) ∧ x7.free = true ∧ x8.free = true) ∧ Dfs n u es ks ws ∧ (∀ k ∈ ks, k ∉ ws → ∀ r ∈ es, (r.1 = k → r.2 ∈ ks) ∧ (r.2 = k → r.1 ∈ ks)) ∧ m = 2 * (n - ks.length) + ws.length ∧
        e = [.v (.int (n : Nat)), .v d, .v (.int (u : Nat)), .o 0 (keysD ks), .o 0 (.lst (natsD ws)), x5, x6, x7, x8, .no]) ⟨_, [u], [u], .no, .no, .no, .no, ⟨⟨f_no, f_no⟩, f_no, f_no⟩, ⟨by simp, by simpa using hu, by simp, by simp, by simp, fun k hk => by rw [List.mem_singleton] at hk; rw [hk]; exact .refl⟩, fun k hk hk2 => absurd hk hk2, rfl, rfl⟩ ?_
      rintro m e ⟨ks, ws, x5, x6, x7, x8, ⟨⟨f5, f6⟩, f7, f8⟩, hD, hc, rfl, rfl⟩
      have hk8 := lt_len hD.nd hD.lt
      rcases List.eq_nil_or_concat ws with rfl | ⟨ws, h, rfl⟩
      · simp! [eq_nats, eqv_nil, List.isEmpty_nil, List.map_nil]
        refine ⟨rfl, ks, x5, x6, x7, x8, fun v => ⟨fun hv => ⟨hD.lt v hv, hD.conn v hv⟩, fun hv => ?_⟩, rfl⟩
        refine closed_all (K := fun v => v ∈ ks) hD.src (fun r hr => ?_) v hv.2
        exact ⟨fun h => (hc r.1 h (by simp) r hr).1 rfl, fun h => (hc r.2 h (by simp) r hr).2 rfl⟩
      · rw [List.concat_eq_append] at hD hc ⊢
        have en : natsD (ws ++ [h]) = natsD ws ++ [.int (h : Nat)] := by simp [natsD]
        have e1 : eqOk (.lst (natsD ws ++ [.int (h : Nat)])) (.lst []) = true := by rw [← en]; exact eq_nats _
        have hne : (natsD ws ++ [D.int (h : Nat)]).isEmpty = false := by simp
        have hks : h ∈ ks := hD.sub h (by simp)
        rw [en]
        simp! [e1, eqv_nil, hne, ↓pop_app, f5]
        have inv : ∀ (d0 : Sl), forW (.tp [.nm 6, .nm 7]) (hold (fun e N => wpSs T [.asg (.nm 8) (.ifx (.prim .eq [.pk 6, .pk 5]) (.var 7) (.var 6)), .iff (.bop true [.prim .in_ [.pk 5, .prim .tupD [.var 6, .var 7]], .prim .nin [.pk 8, .pk 3]]) [.setx 3 (.pk 8) (.lit (.bl true)), .app 4 (.var 8)] []] e ⟨N, fun s e => s.val.isSome = true ∧ Q s (outs 3 e), fun x e => E x (outs 3 e)⟩) ⟨⟩) (es.map roadD)
            [.v (.int (n : Nat)), d0, .v (.int (u : Nat)), .o 0 (keysD ks), .o 0 (.lst (natsD ws)), .v (.int (h : Nat)), x6, x7, x8, .no]
            (hold (fun e => ∃ (ks' ws' : List Nat) (x6 x7 x8 : Sl), (x6.free = true ∧ x7.free = true ∧ x8.free = true) ∧ Dfs n u es ks' ws' ∧ (∀ k ∈ ks', k ∉ ws' → ∀ r ∈ es, (r.1 = k → r.2 ∈ ks') ∧ (r.2 = k → r.1 ∈ ks')) ∧ 2 * (n - ks'.length) + ws'.length ≤ 2 * (n - ks.length) + ws.length ∧
              e = [.v (.int (n : Nat)), d0, .v (.int (u : Nat)), .o 0 (keysD ks'), .o 0 (.lst (natsD ws')), .v (.int (h : Nat)), x6, x7, x8, .no]) ⟨⟩) := by
          intro d0
          refine for_inv (fun i e => ∃ (ks' ws' : List Nat) (x6 x7 x8 : Sl), (x6.free = true ∧ x7.free = true ∧ x8.free = true) ∧ Dfs n u es ks' ws' ∧ h ∈ ks' ∧ (∀ k ∈ ks', k ∉ ws' → k ≠ h → ∀ r ∈ es, (r.1 = k → r.2 ∈ ks') ∧ (r.2 = k → r.1 ∈ ks')) ∧ (∀ r ∈ es.take i, (r.1 = h → r.2 ∈ ks') ∧ (r.2 = h → r.1 ∈ ks')) ∧ 2 * (n - ks'.length) + ws'.length ≤ 2 * (n - ks.length) + ws.length ∧
              e = [.v (.int (n : Nat)), d0, .v (.int (u : Nat)), .o 0 (keysD ks'), .o 0 (.lst (natsD ws')), .v (.int (h : Nat)), x6, x7, x8, .no]) ⟨ks, ws, x6, x7, x8, ⟨f6, f7, f8⟩, ⟨hD.nd, hD.lt, fun k hk => hD.sub k (List.mem_append_left _ hk), by have := hD.le; simp at this; omega, hD.src, hD.conn⟩, hks, fun k hk hk2 hk3 => hc k hk (by simp [hk2, hk3]), by simp, Nat.le_refl _, rfl⟩ ?_ ?_
          · rintro i d' e hd' ⟨ks', ws', x6, x7, x8, ⟨f6, f7, f8⟩, hD', hh, hc1, hc2, hm, rfl⟩
            rw [List.getElem?_map] at hd'
            obtain ⟨r, hr1, rfl⟩ := Option.map_eq_some_iff.mp hd'
            have hre := List.mem_of_getElem? hr1
            have hrn := hr r hre
            have hl1 := lt_len hD'.nd hD'.lt
            have hl2 := hD'.le
            have tk : ∀ r' ∈ es.take (i + 1), r' ∈ es.take i ∨ r' = r := fun r' h => by
              rw [List.take_add_one, hr1] at h
              rcases List.mem_append.mp h with h | h  -- so
              · exact .inl h
              · exact .inr (by simpa using h)  -- so
            dsimp! [f6, f7]
            have added : ∀ v : Nat, v < n → v ∉ ks' → (r.1 = h ∧ v = r.2 ∨ r.2 = h ∧ v = r.1) → Dfs n u es (ks' ++ [v]) (ws' ++ [v]) ∧ h ∈ ks' ++ [v] ∧ (∀ k ∈ ks' ++ [v], k ∉ ws' ++ [v] → k ≠ h → ∀ r ∈ es, (r.1 = k → r.2 ∈ ks' ++ [v]) ∧ (r.2 = k → r.1 ∈ ks' ++ [v])) ∧
                (∀ r ∈ es.take (i + 1), (r.1 = h → r.2 ∈ ks' ++ [v]) ∧ (r.2 = h → r.1 ∈ ks' ++ [v])) ∧ 2 * (n - (ks' ++ [v]).length) + (ws' ++ [v]).length ≤ 2 * (n - ks.length) + ws.length := by
              intro v hv hvn hvr
              have hcu : Conn es u v := by
                have := hD'.conn h hh
                rcases hvr with ⟨e1, e2⟩ | ⟨e1, e2⟩
                · exact this.fwd (by rw [← e1, e2]; exact hre)
                · exact this.bwd (by rw [← e1, e2]; exact hre)
              have hA := dfs_add hD' hv hvn hcu
              have hl := lt_len hA.nd hA.lt
              refine ⟨hA, List.mem_append_left _ hh, fun k hk hk2 hk3 r' hr' => ?_, fun r' hr' => ?_, by simp at hl ⊢; omega⟩
              · rcases List.mem_append.mp hk with hk | hk
                · have := hc1 k hk (fun q => hk2 (List.mem_append_left _ q)) hk3 r' hr'
                  exact ⟨fun e => List.mem_append_left _ (this.1 e), fun e => List.mem_append_left _ (this.2 e)⟩
                · exact absurd (List.mem_append_right _ hk) hk2
              · rcases tk r' hr' with q | rfl
                · have := hc2 r' q
                  exact ⟨fun e => List.mem_append_left _ (this.1 e), fun e => List.mem_append_left _ (this.2 e)⟩
                · rcases hvr with ⟨e1, e2⟩ | ⟨e1, e2⟩
                  · exact ⟨fun _ => by rw [e2]; simp, fun _ => by rw [e1]; exact List.mem_append_left _ hh⟩
                  · exact ⟨fun _ => by rw [e1]; exact List.mem_append_left _ hh, fun _ => by rw [e2]; simp⟩
            have same : ((r.1 = h → r.2 ∈ ks') ∧ (r.2 = h → r.1 ∈ ks')) → ∀ r ∈ es.take (i + 1), (r.1 = h → r.2 ∈ ks') ∧ (r.2 = h → r.1 ∈ ks') := fun h r' hr' => by
              rcases tk r' hr' with q | rfl
              · exact hc2 r' q
              · exact h
            have szk : (ks'.map fun k => ((.inl ((k : Nat) : Int) : Key), D.bl true)).length < sizeLine := sl_lt (by rw [List.length_map]; omega)
            have szw : (natsD ws').length < sizeLine := sl_lt (by rw [List.length_map]; omega)
            have enD : ∀ v : Nat, natsD (ws' ++ [v]) = natsD ws' ++ [.int (v : Nat)] := fun v => by simp [natsD]
            by_cases h1 : r.1 = h
            · have i1 : ((r.1 : Nat) : Int) = (h : Nat) := by omega
              simp! [i1, decide_true, f8, in_two, keysD, look_keys]
              refine ⟨rfl, rfl, ?_⟩
              by_cases h3 : r.2 ∈ ks'
              · simp! [decide_eq_true h3]
                exact ⟨ks', ws', _, _, _, ⟨f_v, f_v, f_v⟩, hD', hh, hc1, same ⟨fun _ => h3, fun _ => by rw [h1]; exact hh⟩, hm, rfl⟩
              · simp! [decide_eq_false h3, keysD, put_keys h3, szk, szw, sl_lt]
                obtain ⟨a1, a2, a3, a4, a5⟩ := added r.2 hrn.2 h3 (.inl ⟨h1, rfl⟩)
                exact ⟨_, _, _, _, _, ⟨f_v, f_v, f_v⟩, a1, a2, a3, a4, a5, by rw [enD]⟩
            · have i1 : ¬ ((r.1 : Nat) : Int) = (h : Nat) := by omega
              by_cases h2 : r.2 = h
              · have i2 : ((r.2 : Nat) : Int) = (h : Nat) := by omega
                simp! [decide_eq_false i1, i2, decide_true, f8, in_two, keysD, look_keys]
                refine ⟨rfl, rfl, ?_⟩
                by_cases h3 : r.1 ∈ ks'
                · simp! [decide_eq_true h3]
                  exact ⟨ks', ws', _, _, _, ⟨f_v, f_v, f_v⟩, hD', hh, hc1, same ⟨fun q => absurd q h1, fun _ => h3⟩, hm, rfl⟩
                · simp! [decide_eq_false h3, keysD, put_keys h3, szk, szw]
                  obtain ⟨a1, a2, a3, a4, a5⟩ := added r.1 hrn.1 h3 (.inr ⟨h2, rfl⟩)
                  exact ⟨_, _, _, _, _, ⟨f_v, f_v, f_v⟩, a1, a2, a3, a4, a5, by rw [enD]⟩
              · have i2 : ¬ ((r.2 : Nat) : Int) = (h : Nat) := by omega
                simp! [decide_eq_false i1, decide_eq_false i2, f8, in_two]
                refine ⟨rfl, rfl, ?_⟩
                exact ⟨ks', ws', _, _, _, ⟨f_v, f_v, f_v⟩, hD', hh, hc1, same ⟨fun q => absurd q h1, fun q => absurd q h2⟩, hm, rfl⟩
          · rintro e ⟨ks', ws', x6, x7, x8, ff, hD', hh, hc1, hc2, hm, rfl⟩
            rw [List.length_map, List.take_length] at hc2
            refine ⟨ks', ws', x6, x7, x8, ff, hD', fun k hk hk2 => ?_, hm, rfl⟩
            by_cases e : k = h
            · rw [e]; exact hc2
            · exact hc1 k hk hk2 e
        rcases hd with rfl | rfl
        all_goals
          refine for_mono (inv _) ?_
          rintro e ⟨ks', ws', x6, x7, x8, ⟨f6, f7, f8⟩, hD', hc', hm, rfl⟩
          simp! []
          exact ⟨_, by simp; omega, ks', ws', _, x6, x7, x8, ⟨⟨f_v, f6⟩, f7, f8⟩, hD', hc', rfl, rfl⟩
  · rintro e ⟨ks, x5, x6, x7, x8, hks, rfl⟩
    simp! []
    refine ⟨rfl, by omega, by omega, ?_⟩
    refine comp_filter (fun d => match d with | .int i => decide (i.toNat ∈ ks) | _ => false) id (fun e => ∃ x, e = [.v (.int (n : Nat)), .v d, .v (.int (u : Nat)), .o 0 (keysD ks), .o 0 (.lst []), x5, x6, x7, x8, x]) ⟨_, rfl⟩ (by rw [rngD_len]; exact sl_le (by omega)) ?_ ?_
    · rintro d' e hd' ⟨x, rfl⟩
      obtain ⟨k, rfl, hk⟩ := rngD_mem hd'
      dsimp! []
      rw [Int.zero_add]
      simp! [keysD, look_keys]
      refine ⟨by simp, ?_⟩
      split
      · exact ⟨rfl, _, rfl⟩
      · exact ⟨_, rfl⟩
    · rintro e ⟨x, rfl⟩
      simp! []
      have e1 : ((rngD 0 (n : Int)).filter (fun d => match d with | .int i => decide (i.toNat ∈ ks) | _ => false)).map id = natsD (reachF n es u) := by
        rw [List.map_id, rngD_nat, List.filter_map]
        unfold natsD reachF
        congr 1
        refine List.filter_congr fun v hv => ?_
        have := hks v
        have hv := List.mem_range.mp hv
        simp only [Function.comp, Int.toNat_natCast]
        rw [decide_eq_decide, this]
        exact ⟨fun h => h.2, fun h => ⟨hv, h⟩⟩
      rw [e1]
      exact ⟨rfl, q⟩
end K79
end
section
open PySem PySem.Spec L2 DL TW G
set_option Elab.async false
set_option linter.all false
set_option maxRecDepth 100000
set_option maxHeartbeats 3900000
namespace K79
local macro_rules | `(tactic| simp! [$ls,*]) => `(tactic| (simp (config := {dsimp := false, failIfUnchanged := false}) only [List.take_succ_cons, List.take_zero, List.drop_succ_cons, List.drop_zero, restore, unlocks, unlockS, locks, lockS, hold_ap, mkR, DL.fresh, outsOk, borrows, backs, backS, lend1, hasN, lentOf, namedOf, allClean, Sl.clean, cleanN, cleanN.cleans, exClean, imm, imms, List.foldl_nil, List.foldl_cons, List.getElem?_cons_succ, List.getElem?_cons_zero, List.set_cons_succ, List.set_cons_zero, reduceIte, ite_true, if_true, if_false, Bool.false_eq_true, reduceCtorEq, Bool.true_and, Bool.and_true, Bool.or_true, Bool.true_or, Bool.or_false, Bool.false_or, Bool.not_false, Bool.not_true, Nat.reduceBEq, beq_self_eq_true, true_and, and_true]; simp (config := {dsimp := false, failIfUnchanged := false}) only [↓w_lit, ↓w_glb, ↓w_var, ↓w_mv, ↓w_pk, ↓w_fld, ↓w_prim, ↓w_chn, ↓w_bop, ↓w_ifx, ↓w_call, ↓w_nil, ↓w_cons, ↓w_b1, ↓w_b2, ↓w_t0, ↓w_t1, ↓k_asg, ↓k_par, ↓k_setx, ↓k_app, ↓k_ext, ↓k_exp, ↓k_ret, ↓k_ret0, ↓k_pas, ↓k_iff, ↓k_rse0, ↓k_rse1, ↓k_tri, ↓k_s0, ↓k_s1, ↓k_for, ↓k_h0, ↓k_h1, ↓h_comp, ↓w_pop, ↓r_srcE, ↓r_srcZ, ↓r_in, ↓r_nin, ↓r_sl11, keyI_hold, keyS_hold, ↓r_op1, ↓r_op2, ↓sum_l, ↓sum_t, ↓r_mulT, ↓r_dK1, ↓r_lrng, ↓r_nne, ↓r_nhas, ↓r_napp, ↓r_isi, ↓r_set2, ↓r_okPk, ↓r_okL, ↓r_primQ, ↓r_prim0, ↓r_nestQ, ↓r_tstQ, ↓r_truQ, ↓r_asgN, ↓r_asgT, ↓r_srcQ, ↓r_srcS, ↓r_srcR, ↓r_srcR2, ↓r_setxQ, ↓r_modQ, ↓r_appQ, ↓r_extQ, ↓r_retQ, ↓r_callL, argsS, argS, lend1, hasN, lentOf, namedOf, Nat.reduceBEq, beq_self_eq_true, Bool.not_false, Bool.not_true, ↓r_pAdd, ↓r_pMul, ↓r_p2I, ↓r_sub, ↓r_fdiv, ↓r_mod, ↓r_pow, ↓r_le, ↓r_gt, ↓r_ge, ↓r_neg, ↓r_nt, ↓r_eq, ↓r_ne, ↓r_lt, ↓r_idx, ↓r_pSl, ↓r_sl00, ↓r_sl10, ↓r_sl01, ↓r_rev, ↓r_len, ↓r_abs, ↓r_min2, ↓r_max2, ↓r_sum, ↓r_all, ↓r_any, ↓r_pInts, ↓r_pBls, ↓r_int, ↓r_bool, ↓r_str, ↓r_repr, ↓r_tuple, ↓r_list, ↓r_tupD, ↓r_lstD, ↓r_dK0, ↓r_dT0, some_hold, ints_hold, dat_cons, dat_nil, q_ii, q_ss, q_bb, v_ii, v_bb, v_ss, ln0, ln1, ln2, ln3, ln4, ln5, ln6, ln7, ln8, nestK, rzs, Sl.rz, okr, isDisp, Rz.flat, Rz.dat, Rz.isFr, setS, setAll, f_no, f_v, f_o, Sl.val, mkR, DL.fresh, seqOf, locks, unlocks, lockS, unlockS, imm, imms, immR, List.foldl_nil, List.foldl_cons, List.getElem?_cons_succ, List.getElem?_cons_zero, List.set_cons_succ, List.set_cons_zero, true_and, and_true, if_true, ite_true, if_false, List.all_cons, List.all_nil, Bool.and_true, Bool.true_and, Bool.or_true, Bool.true_or, Bool.or_false, Bool.false_or, reduceCtorEq, reduceIte, Bool.false_eq_true, $ls,*]))
local macro_rules | `(tactic| dsimp! [$ls,*]) => `(tactic| refine ⟨_, (by simp (config := {dsimp := false}) only [clr_eq, bindT, bindTs, setS, f_no, f_v, f_o, List.foldl_nil, List.foldl_cons, List.getElem?_cons_succ, List.getElem?_cons_zero, List.set_cons_succ, List.set_cons_zero, if_true, ite_true, reduceIte, $ls,*] <;> first | done | exact rfl), ?_⟩)
def moneyC : Ctr where
  run := fun ss Q _ => ∃ p : List Int, ss = [.v (rowD p)] ∧ Q (.v (.int p.sum)) [.no]
  mono := fun {ss Q Q' E E'} ⟨p, h1, h2⟩ hq _ => ⟨p, h1, hq _ _ h2⟩
theorem wp_money {T : Txt} (O : Ops T) : moneyC.Le (ctrOf T 1 0 bd_money) := by
  rintro ss Q E ⟨p, rfl, q⟩
  refine ⟨rfl, ?_⟩
  dsimp only [bd_money]
  show wpSs _ _ [_] _
  simp! [↓O.sum.call]
  simp! []
  exact ⟨rfl, q⟩
def endsC : Ctr where
  run := fun ss Q _ => ∃ (n : Nat) (rs : List (Nat × Nat)) (f : List Int), ss = [.v (townD n rs), .v (rowD f)] ∧ (∀ r ∈ rs, r.1 < r.2 ∧ r.2 < n) ∧ n ≤ 1000 ∧ Q (.v (rowD (endsF n rs f))) [.no, .no]
  mono := fun {ss Q Q' E E'} ⟨n, rs, f, h1, h2, h3, h4⟩ hq _ => ⟨n, rs, f, h1, h2, h3, hq _ _ h4⟩
theorem wp_ends {T : Txt} : endsC.Le (ctrOf T 2 4 bd_ends) := by
  rintro ss Q E ⟨n, rs, f, rfl, hr, hn, q⟩
  refine ⟨rfl, ?_⟩
  dsimp only [bd_ends]
  show wpSs _ _ [_, _, _, _, _, _] _
  simp! [atI0, atI1]
  refine ⟨by omega, by omega, sl_le (by simp; omega), ?_⟩
  rw [zip_rows]
  refine for_inv (fun k e => ∃ x y z, (x.free = true ∧ y.free = true ∧ z.free = true) ∧ e = [.v (townD n rs), .v (rowD f), .o 0 (.lst ((endsL ((rs.zip f).take k) n).map D.int)), x, y, z]) ⟨_, _, _, ⟨f_no, f_no, f_no⟩, ?_⟩ ?_ ?_
  · have e1 : endsL ((rs.zip f).take 0) n = List.replicate n 0 := by
      refine List.ext_getElem (by simp [endsL]) fun i h1 h2 => ?_
      simp [endsL, bdZ]
    rw [e1, rep_flat, rep_ints]
    simp
  · rintro i d e hd ⟨x, y, z, ⟨hx, hy, hz⟩, rfl⟩
    rw [List.getElem?_map] at hd
    obtain ⟨⟨r, w⟩, hr1, rfl⟩ := Option.map_eq_some_iff.mp hd
    have hm := List.of_mem_zip (List.mem_of_getElem? hr1)
    have hrn := hr r hm.1
    have e2 : (rs.zip f).take (i + 1) = (rs.zip f).take i ++ [(r, w)] := by rw [List.take_add_one, hr1]; rfl
    rw [e2, endsL_add (r := r) (x := w) (by omega) hrn.2 (by omega)]
    have hl : (endsL ((rs.zip f).take i) n).length = n := endsL_len
    generalize endsL ((rs.zip f).take i) n = g at hl ⊢
    dsimp! [hx, hy, hz]
    simp! [atI_int, show r.1 < n by omega, hrn.2, hl, ixN_nat, getD_set, List.length_map, List.length_set]
    exact ⟨_, _, _, ⟨f_v, f_v, f_v⟩, rfl⟩
  · rintro e ⟨x, y, z, ⟨hx, hy, hz⟩, rfl⟩
    simp! []
    rw [List.take_of_length_le (by simp)]  -- so
    exact ⟨rfl, q⟩
def cutC : Ctr where
  run := fun ss Q _ => ∃ (n : Nat) (rs : List (Nat × Nat)) (s : List Int), ss = [.v (townD n rs), .v (rowD s)] ∧ (∀ r ∈ rs, r.1 < r.2 ∧ r.2 < n) ∧ s.length = n ∧ rs.length ≤ 1000 ∧ Q (.v (rowD (cutF rs s))) [.no, .no]
  mono := fun {ss Q Q' E E'} ⟨n, rs, f, h1, h2, h3, h4, h5⟩ hq _ => ⟨n, rs, f, h1, h2, h3, h4, hq _ _ h5⟩
def cutD (s : List Int) : D → D
  | .tup [.int a, .int b] => .int (s.getD a.toNat 0 - s.getD b.toNat 0)
  | _ => .non
theorem wp_cut_flow {T : Txt} : cutC.Le (ctrOf T 2 2 bd_cut_flow) := by
  rintro ss Q E ⟨n, rs, s, rfl, hr, hs, hl, q⟩
  refine ⟨rfl, ?_⟩
  dsimp only [bd_cut_flow]
  show wpSs _ _ [_, _, _, _] _
  simp! [atI1]
  refine ⟨rfl, comp_map' (cutD s) (fun e => ∃ x y, e = [.v (townD n rs), .v (rowD s), x, y]) ⟨_, _, rfl⟩ (by rw [List.length_map]; exact sl_le (by omega)) ?_ ?_⟩
  · rintro d e hd ⟨x, y, rfl⟩
    obtain ⟨r, hr1, rfl⟩ := List.mem_map.mp hd
    have := hr r hr1
    dsimp! []
    simp! [atI_int, show r.1 < s.length by omega, show r.2 < s.length by omega]
    exact ⟨by simp [cutD], _, _, rfl⟩
  · rintro e ⟨x, y, rfl⟩
    simp! []
    have e1 : (rs.map roadD).map (cutD s) = (cutF rs s).map D.int := by
      rw [cutF, List.map_map, List.map_map]
      exact List.map_congr_left fun r _ => by simp [cutD]
    rw [e1]
    exact ⟨rfl, q⟩
end K79
end
section
open PySem PySem.Spec L2 DL TW G
set_option Elab.async false
set_option linter.all false
set_option maxRecDepth 100000
set_option maxHeartbeats 3900000
namespace K79
local macro_rules | `(tactic| simp! [$ls,*]) => `(tactic| (simp (config := {dsimp := false, failIfUnchanged := false}) only [List.take_succ_cons, List.take_zero, List.drop_succ_cons, List.drop_zero, restore, unlocks, unlockS, locks, lockS, hold_ap, mkR, DL.fresh, outsOk, borrows, backs, backS, lend1, hasN, lentOf, namedOf, allClean, Sl.clean, cleanN, cleanN.cleans, exClean, imm, imms, List.foldl_nil, List.foldl_cons, List.getElem?_cons_succ, List.getElem?_cons_zero, List.set_cons_succ, List.set_cons_zero, reduceIte, ite_true, if_true, if_false, Bool.false_eq_true, reduceCtorEq, Bool.true_and, Bool.and_true, Bool.or_true, Bool.true_or, Bool.or_false, Bool.false_or, Bool.not_false, Bool.not_true, Nat.reduceBEq, beq_self_eq_true, true_and, and_true]; simp (config := {dsimp := false, failIfUnchanged := false}) only [↓w_lit, ↓w_glb, ↓w_var, ↓w_mv, ↓w_pk, ↓w_fld, ↓w_prim, ↓w_chn, ↓w_bop, ↓w_ifx, ↓w_call, ↓w_nil, ↓w_cons, ↓w_b1, ↓w_b2, ↓w_t0, ↓w_t1, ↓k_asg, ↓k_par, ↓k_setx, ↓k_app, ↓k_ext, ↓k_exp, ↓k_ret, ↓k_ret0, ↓k_pas, ↓k_iff, ↓k_rse0, ↓k_rse1, ↓k_tri, ↓k_s0, ↓k_s1, ↓k_for, ↓k_h0, ↓k_h1, ↓h_comp, ↓w_pop, ↓r_srcE, ↓r_srcZ, ↓r_in, ↓r_nin, ↓r_sl11, keyI_hold, keyS_hold, ↓r_op1, ↓r_op2, ↓sum_l, ↓sum_t, ↓r_mulT, ↓r_dK1, ↓r_lrng, ↓r_nne, ↓r_nhas, ↓r_napp, ↓r_isi, ↓r_set2, ↓r_okPk, ↓r_okL, ↓r_primQ, ↓r_prim0, ↓r_nestQ, ↓r_tstQ, ↓r_truQ, ↓r_asgN, ↓r_asgT, ↓r_srcQ, ↓r_srcS, ↓r_srcR, ↓r_srcR2, ↓r_setxQ, ↓r_modQ, ↓r_appQ, ↓r_extQ, ↓r_retQ, ↓r_callL, argsS, argS, lend1, hasN, lentOf, namedOf, Nat.reduceBEq, beq_self_eq_true, Bool.not_false, Bool.not_true, ↓r_pAdd, ↓r_pMul, ↓r_p2I, ↓r_sub, ↓r_fdiv, ↓r_mod, ↓r_pow, ↓r_le, ↓r_gt, ↓r_ge, ↓r_neg, ↓r_nt, ↓r_eq, ↓r_ne, ↓r_lt, ↓r_idx, ↓r_pSl, ↓r_sl00, ↓r_sl10, ↓r_sl01, ↓r_rev, ↓r_len, ↓r_abs, ↓r_min2, ↓r_max2, ↓r_sum, ↓r_all, ↓r_any, ↓r_pInts, ↓r_pBls, ↓r_int, ↓r_bool, ↓r_str, ↓r_repr, ↓r_tuple, ↓r_list, ↓r_tupD, ↓r_lstD, ↓r_dK0, ↓r_dT0, some_hold, ints_hold, dat_cons, dat_nil, q_ii, q_ss, q_bb, v_ii, v_bb, v_ss, ln0, ln1, ln2, ln3, ln4, ln5, ln6, ln7, ln8, nestK, rzs, Sl.rz, okr, isDisp, Rz.flat, Rz.dat, Rz.isFr, setS, setAll, f_no, f_v, f_o, Sl.val, mkR, DL.fresh, seqOf, locks, unlocks, lockS, unlockS, imm, imms, immR, List.foldl_nil, List.foldl_cons, List.getElem?_cons_succ, List.getElem?_cons_zero, List.set_cons_succ, List.set_cons_zero, true_and, and_true, if_true, ite_true, if_false, List.all_cons, List.all_nil, Bool.and_true, Bool.true_and, Bool.or_true, Bool.true_or, Bool.or_false, Bool.false_or, reduceCtorEq, reduceIte, Bool.false_eq_true, $ls,*]))
local macro_rules | `(tactic| dsimp! [$ls,*]) => `(tactic| refine ⟨_, (by simp (config := {dsimp := false}) only [clr_eq, bindT, bindTs, setS, f_no, f_v, f_o, List.foldl_nil, List.foldl_cons, List.getElem?_cons_succ, List.getElem?_cons_zero, List.set_cons_succ, List.set_cons_zero, if_true, ite_true, reduceIte, $ls,*] <;> first | done | exact rfl), ?_⟩)
def treeC : Ctr where
  run := fun ss Q _ => ∃ (n : Nat) (rs : List (Nat × Nat)), ss = [.v (townD n rs)] ∧ (∀ r ∈ rs, r.1 < n ∧ r.2 < n) ∧ n ≤ 1000 ∧ rs.length ≤ 1000 ∧ Q (.o 0 (.lst (natsD (treeF rs)))) [.no]
  mono := fun {ss Q Q' E E'} ⟨n, rs, h1, h2, h3, h4, h5⟩ hq _ => ⟨n, rs, h1, h2, h3, h4, hq _ _ h5⟩
theorem esAt_lt {n : Nat} {rs : List (Nat × Nat)} {ps : List Nat} (hr : ∀ r ∈ rs, r.1 < n ∧ r.2 < n) (hp : ∀ k ∈ ps, k < rs.length) : ∀ r ∈ esAt rs ps, r.1 < n ∧ r.2 < n := fun r h => by
  obtain ⟨k, hk, rfl⟩ := List.mem_map.mp h
  have := hp k hk
  rw [show rd rs k = rs[k] by simp [List.getD, List.getElem?_eq_getElem this]]
  exact hr _ (List.getElem_mem this)
theorem rd_get {rs : List (Nat × Nat)} {i : Nat} {r : Nat × Nat} (h : rs[i]? = some r) : rd rs i = r := by simp [List.getD, h]
theorem wp_tree_places {T : Txt} (h100 : At T 100 reachedC [false, false, false]) : treeC.Le (ctrOf T 1 5 bd_tree_places) := by
  rintro ss Q E ⟨n, rs, rfl, hr, hn, hl, q⟩
  refine ⟨rfl, ?_⟩
  dsimp only [bd_tree_places]
  show wpSs _ _ [_, _, _, _, _, _] _
  simp! [atI0, atI1]
  refine for_inv (fun k e => ∃ x y z, (x.free = true ∧ y.free = true ∧ z.free = true) ∧ e = [.v (townD n rs), .o 0 (.lst (natsD (treeN rs k))), x, y, z, .no]) ⟨_, _, _, ⟨f_no, f_no, f_no⟩, rfl⟩ ?_ ?_
  · rintro i d e hd ⟨x, y, z, ⟨hx, hy, hz⟩, rfl⟩
    obtain ⟨d', hd', rfl⟩ := enum_get hd
    rw [List.getElem?_map] at hd'
    obtain ⟨r, hr1, rfl⟩ := Option.map_eq_some_iff.mp hd'
    have hil : i < rs.length := (List.getElem?_eq_some_iff.mp hr1).1
    have hrn := hr r (List.mem_of_getElem? hr1)
    have hlt : ∀ k ∈ treeN rs i, k < rs.length := fun k hk => by have := treeN_lt rs i k hk; omega
    have hln := treeN_len rs i
    rw [treeN_succ]
    have ers := rd_get hr1
    unfold treeStep
    rw [ers]
    generalize treeN rs i = F at hlt hln ⊢
    dsimp! [hx, hy, hz]
    simp! [atI0, atI1]
    refine ⟨rfl, comp_map' (roadAt rs) (fun e => ∃ x, e = [.v (townD n rs), .w false 0 (.lst (natsD F)), .v (.int (i : Nat)), .v (.int (r.1 : Nat)), .v (.int (r.2 : Nat)), x]) ⟨_, rfl⟩ (by rw [List.length_map]; exact sl_le (by omega)) ?_ ?_⟩
    · rintro d e hd ⟨x, rfl⟩
      obtain ⟨k, hk, rfl⟩ := List.mem_map.mp hd
      dsimp! []
      simp! [atI0, atI1, atI_road (hlt k hk)]
      exact ⟨by simp [roadAt, natOf], _, rfl⟩
    · rintro e ⟨x, rfl⟩
      rw [roads_at]
      simp! [↓h100.call, atI0]
      refine ⟨n, r.1, _, _, rfl, .inl rfl, esAt_lt hr hlt, hrn.1, hn, ?_⟩
      simp! [plain_natsP, shaped_natsP, shaped_intP, any_nats, cleans_natsP, plain_intP]
      have hiff : r.2 ∈ reachF n (esAt rs F) r.1 ↔ Conn (esAt rs F) r.1 r.2 := ⟨fun h => (mem_reach.mp h).2, fun h => mem_reach.mpr ⟨hrn.2, h⟩⟩
      by_cases hc : Conn (esAt rs F) r.1 r.2
      · rw [decide_eq_true (hiff.mpr hc)]
        simp! [hc]
        exact ⟨_, _, _, ⟨f_v, f_v, f_v⟩, rfl⟩
      · rw [decide_eq_false (fun h => hc (hiff.mp h))]
        simp! [hc]
        have en : natsD (F ++ [i]) = natsD F ++ [.int (i : Nat)] := by simp [natsD]
        rw [en]
        exact ⟨sl_lt (by rw [List.length_map]; omega), _, _, _, ⟨f_v, f_v, f_v⟩, rfl⟩
  · rintro e ⟨x, y, z, ⟨hx, hy, hz⟩, rfl⟩
    simp! []
    rw [enum_len, List.length_map]
    exact ⟨rfl, q⟩
end K79
end
section
open PySem PySem.Spec L2 DL TW G
set_option Elab.async false
set_option linter.all false
set_option maxRecDepth 100000
set_option maxHeartbeats 3900000
namespace K79
local macro_rules | `(tactic| simp! [$ls,*]) => `(tactic| (simp (config := {dsimp := false, failIfUnchanged := false}) only [List.take_succ_cons, List.take_zero, List.drop_succ_cons, List.drop_zero, restore, unlocks, unlockS, locks, lockS, hold_ap, mkR, DL.fresh, outsOk, borrows, backs, backS, lend1, hasN, lentOf, namedOf, allClean, Sl.clean, cleanN, cleanN.cleans, exClean, imm, imms, List.foldl_nil, List.foldl_cons, List.getElem?_cons_succ, List.getElem?_cons_zero, List.set_cons_succ, List.set_cons_zero, reduceIte, ite_true, if_true, if_false, Bool.false_eq_true, reduceCtorEq, Bool.true_and, Bool.and_true, Bool.or_true, Bool.true_or, Bool.or_false, Bool.false_or, Bool.not_false, Bool.not_true, Nat.reduceBEq, beq_self_eq_true, true_and, and_true]; simp (config := {dsimp := false, failIfUnchanged := false}) only [↓w_lit, ↓w_glb, ↓w_var, ↓w_mv, ↓w_pk, ↓w_fld, ↓w_prim, ↓w_chn, ↓w_bop, ↓w_ifx, ↓w_call, ↓w_nil, ↓w_cons, ↓w_b1, ↓w_b2, ↓w_t0, ↓w_t1, ↓k_asg, ↓k_par, ↓k_setx, ↓k_app, ↓k_ext, ↓k_exp, ↓k_ret, ↓k_ret0, ↓k_pas, ↓k_iff, ↓k_rse0, ↓k_rse1, ↓k_tri, ↓k_s0, ↓k_s1, ↓k_for, ↓k_h0, ↓k_h1, ↓h_comp, ↓w_pop, ↓r_srcE, ↓r_srcZ, ↓r_in, ↓r_nin, ↓r_sl11, keyI_hold, keyS_hold, ↓r_op1, ↓r_op2, ↓sum_l, ↓sum_t, ↓r_mulT, ↓r_dK1, ↓r_lrng, ↓r_nne, ↓r_nhas, ↓r_napp, ↓r_isi, ↓r_set2, ↓r_okPk, ↓r_okL, ↓r_primQ, ↓r_prim0, ↓r_nestQ, ↓r_tstQ, ↓r_truQ, ↓r_asgN, ↓r_asgT, ↓r_srcQ, ↓r_srcS, ↓r_srcR, ↓r_srcR2, ↓r_setxQ, ↓r_modQ, ↓r_appQ, ↓r_extQ, ↓r_retQ, ↓r_callL, argsS, argS, lend1, hasN, lentOf, namedOf, Nat.reduceBEq, beq_self_eq_true, Bool.not_false, Bool.not_true, ↓r_pAdd, ↓r_pMul, ↓r_p2I, ↓r_sub, ↓r_fdiv, ↓r_mod, ↓r_pow, ↓r_le, ↓r_gt, ↓r_ge, ↓r_neg, ↓r_nt, ↓r_eq, ↓r_ne, ↓r_lt, ↓r_idx, ↓r_pSl, ↓r_sl00, ↓r_sl10, ↓r_sl01, ↓r_rev, ↓r_len, ↓r_abs, ↓r_min2, ↓r_max2, ↓r_sum, ↓r_all, ↓r_any, ↓r_pInts, ↓r_pBls, ↓r_int, ↓r_bool, ↓r_str, ↓r_repr, ↓r_tuple, ↓r_list, ↓r_tupD, ↓r_lstD, ↓r_dK0, ↓r_dT0, some_hold, ints_hold, dat_cons, dat_nil, q_ii, q_ss, q_bb, v_ii, v_bb, v_ss, ln0, ln1, ln2, ln3, ln4, ln5, ln6, ln7, ln8, nestK, rzs, Sl.rz, okr, isDisp, Rz.flat, Rz.dat, Rz.isFr, setS, setAll, f_no, f_v, f_o, Sl.val, mkR, DL.fresh, seqOf, locks, unlocks, lockS, unlockS, imm, imms, immR, List.foldl_nil, List.foldl_cons, List.getElem?_cons_succ, List.getElem?_cons_zero, List.set_cons_succ, List.set_cons_zero, true_and, and_true, if_true, ite_true, if_false, List.all_cons, List.all_nil, Bool.and_true, Bool.true_and, Bool.or_true, Bool.true_or, Bool.or_false, Bool.false_or, reduceCtorEq, reduceIte, Bool.false_eq_true, $ls,*]))
local macro_rules | `(tactic| dsimp! [$ls,*]) => `(tactic| refine ⟨_, (by simp (config := {dsimp := false}) only [clr_eq, bindT, bindTs, setS, f_no, f_v, f_o, List.foldl_nil, List.foldl_cons, List.getElem?_cons_succ, List.getElem?_cons_zero, List.set_cons_succ, List.set_cons_zero, if_true, ite_true, reduceIte, $ls,*] <;> first | done | exact rfl), ?_⟩)
def deckD (gs : List Int) (s t : Int) : D := .dK [(.inr "great", .lst (gs.map D.int)), (.inr "mixed", .int s), (.inr "turns", .int t)]
/-- a deck, whatever is in it -/
def Dk (d : D) : Prop := ∃ gs s t, d = deckD gs s t ∧ gs.length ≤ 63
theorem ne_gm : ¬ ((Sum.inr "great" : Key) = .inr "mixed") := by decide
theorem ne_gt : ¬ ((Sum.inr "great" : Key) = .inr "turns") := by decide
theorem ne_mt : ¬ ((Sum.inr "mixed" : Key) = .inr "turns") := by decide
theorem ne_tm : ¬ ((Sum.inr "turns" : Key) = .inr "mixed") := by decide
theorem lk_g {a b c : D} : look [((.inr "great" : Key), a), (.inr "mixed", b), (.inr "turns", c)] (.inr "great") = some a := by rw [look_cons, if_pos rfl]
theorem lk_m {a b c : D} : look [((.inr "great" : Key), a), (.inr "mixed", b), (.inr "turns", c)] (.inr "mixed") = some b := by rw [look_cons, if_neg ne_gm, look_cons, if_pos rfl]
theorem lk_t {a b c : D} : look [((.inr "great" : Key), a), (.inr "mixed", b), (.inr "turns", c)] (.inr "turns") = some c := by rw [look_cons, if_neg ne_gt, look_cons, if_neg ne_mt, look_cons, if_pos rfl]
theorem sn_gm : ¬ (("great" : Str) = "mixed") := by decide
theorem sn_gt : ¬ (("great" : Str) = "turns") := by decide
theorem sn_mt : ¬ (("mixed" : Str) = "turns") := by decide
theorem sn_tm : ¬ (("turns" : Str) = "mixed") := by decide
theorem pt_m {a b c x : D} : putD [((.inr "great" : Key), a), (.inr "mixed", b), (.inr "turns", c)] (.inr "mixed") x = [(.inr "great", a), (.inr "mixed", x), (.inr "turns", c)] := by simp [putD, sn_gm, sn_tm]
theorem pt_t {a b c x : D} : putD [((.inr "great" : Key), a), (.inr "mixed", b), (.inr "turns", c)] (.inr "turns") x = [(.inr "great", a), (.inr "mixed", b), (.inr "turns", x)] := by simp [putD, sn_gt, sn_mt]
theorem ns_g {ys : List D} {b c : D} : nstAt (.dK [((.inr "great" : Key), .lst ys), (.inr "mixed", b), (.inr "turns", c)]) (.str "great") = some ys := by
  simp only [nstAt, keyOf, lk_g]
theorem np_g {ys zs : List D} {b c : D} : nstPut (.dK [((.inr "great" : Key), .lst ys), (.inr "mixed", b), (.inr "turns", c)]) (.str "great") zs = .dK [(.inr "great", .lst zs), (.inr "mixed", b), (.inr "turns", c)] := rfl
theorem sz3 {a b c : Key × D} : ([a, b, c].length < sizeLine) = True := eq_true (by show 3 < sizeLine; decide)
def deckC : Ctr where
  run := fun ss Q _ => ∃ ns : List Int, ss = [.v (.scr ns)] ∧ ns.length ≤ 63 ∧ ∀ d, Dk d → Q (.o 1 d) [.no]
  mono := fun {ss Q Q' E E'} ⟨ns, h1, h2, h3⟩ hq _ => ⟨ns, h1, h2, fun d a => hq _ _ (h3 d a)⟩
theorem cut_63 (ns : List Int) : ∃ ms : List Int, cut (ns.map D.int) none (some 63) = ms.map D.int ∧ ms.length ≤ 63 := by
  unfold cut
  rw [← List.map_drop, ← List.map_take]
  refine ⟨_, rfl, ?_⟩
  rw [List.length_take]
  have : HT.sIx (ns.map D.int).length (ns.map D.int).length (some 63) ≤ 63 := by
    rw [show (some (63 : Int)) = some ((63 : Nat) : Int) from rfl, HT.sIx_nat]
    omega
  omega
theorem wp_law_deck {T : Txt} (O : Ops T) : deckC.Le (ctrOf T 1 3 bd_law_deck) := by
  rintro ss Q E ⟨ns, rfl, hl, q⟩
  refine ⟨rfl, ?_⟩
  dsimp only [bd_law_deck]
  show wpSs _ _ [_, _, _, _] _
  obtain ⟨ms, e1, hm⟩ := cut_63 ns
  refine seq_at 1 (fun e => e = [.v (.scr ns), .o 1 (deckD [] (1624579 + ms.length) 0), .no, .no]) ?_ ?_
  · simp! [e1, ↓r_nestQ, nestDs, List.length_map]
    exact ⟨rfl, by decide, by decide, rfl⟩
  · rintro e rfl
    simp! [e1]
    refine for_inv (fun k e => ∃ (gs : List Int) (s : Int) (x y : Sl), (x.free = true ∧ y.free = true) ∧ gs.length ≤ k ∧ k ≤ 63 ∧ e = [.v (.scr ns), .o 1 (deckD gs s 0), x, y]) ⟨[], _, _, _, ⟨f_no, f_no⟩, Nat.le_refl _, by omega, rfl⟩ ?_ ?_
    · rintro i d e hd ⟨gs, s, x, y, ⟨hx, hy⟩, hg, hi, rfl⟩
      rw [List.getElem?_map] at hd
      obtain ⟨c, hc, rfl⟩ := Option.map_eq_some_iff.mp hd
      have hi2 := (List.getElem?_eq_some_iff.mp hc).1
      dsimp! [hx]
      refine seq_at 2 (fun e => ∃ (gs : List Int) (y : Sl), gs.length ≤ i + 1 ∧ ∃ own : Int, e = [.v (.scr ns), .o 1 (deckD gs s 0), .v (.int c), .v (.int own)]) ?_ ?_
      · simp! [hy]
        refine ⟨.inl (.inl ⟨by decide, by decide⟩), ⟨by decide, by decide, by decide⟩, ?_⟩
        generalize (2 * (if c < 0 then -c else c) + if decide (c < 0) = true then 1 else 0) = own
        split
        · simp! [↓O.nhas.call, ↓O.napp.call, deckD, ns_g, np_g]
          simp! [↓O.nhas.call, ↓O.napp.call, deckD, ns_g, np_g]
          refine ⟨sl_lt (by rw [List.length_map]; omega), ?_⟩
          simp! []
          exact ⟨gs ++ [own], .no, by simp; omega, own, by rw [deckD, List.map_append]; rfl⟩
        · exact ⟨gs, .no, by omega, _, rfl⟩
      · rintro e ⟨gs, y, hg, own, rfl⟩
        simp! [deckD, lk_m, pt_m, sz3]
        exact ⟨.inl (.inr ⟨by decide, by decide⟩), by decide, gs, _, _, _, ⟨f_v, f_v⟩, hg, by omega, rfl⟩
    · rintro e ⟨gs, s, x, y, ⟨hx, hy⟩, hg, hi, rfl⟩
      simp! []
      rw [List.length_map] at hg
      exact ⟨rfl, q _ ⟨gs, s, 0, rfl, by omega⟩⟩
/-- the draw, as callers see it -/
def dC : Ctr where
  run := fun ss Q _ => ∃ (d : D) (many : Nat), ss = [.p 1 d, .v (.int (many : Nat))] ∧ Dk d ∧ 0 < many ∧ many < 2 ^ 64 ∧ ∀ (x : Nat) (d' : D), x < many → Dk d' → Q (.v (.int (x : Nat))) [.p 1 d', .no]
  mono := fun {ss Q Q' E E'} ⟨d, many, h1, h2, h3, h4, h5⟩ hq _ => ⟨d, many, h1, h2, h3, h4, fun x d' a b => hq _ _ (h5 x d' a b)⟩
theorem mod_lt {a m : Int} (h : 0 < m) : 0 ≤ a % m ∧ a % m < m := ⟨Int.emod_nonneg _ (by omega), Int.emod_lt_of_pos _ h⟩
theorem div_ok {m : Nat} (h0 : 0 < m) (h1 : m < 2 ^ 64) : CDivW 0 (m : Int) := by
  refine ⟨by omega, ?_⟩
  have : (m : Int).natAbs = m := by omega
  rw [this]
  have := (Nat.log2_lt (by omega)).mpr h1
  omega
theorem wp_law_draw {T : Txt} (O : Ops T) : dC.Le (ctrOf T 2 2 bd_law_draw) := by
  rintro ss Q E ⟨d, many, rfl, ⟨gs, s, t, rfl, hl⟩, h0, h1, q⟩
  refine ⟨rfl, ?_⟩
  dsimp only [bd_law_draw]
  show wpSs _ _ [_, _, _, _] _
  have hdv : ∀ x : Int, CDivW x (many : Int) := fun x => div_ok h0 h1
  refine seq_at 1 (fun e => 2 ≤ many ∧ e = [.p 1 (deckD gs s t), .v (.int (many : Nat)), .no, .no]) ?_ ?_
  · by_cases h2 : many < 2
    · simp! [decide_eq_true (show (many : Int) < 2 by omega)]
      exact ⟨rfl, q 0 _ (by omega) ⟨gs, s, t, rfl, hl⟩⟩
    · simp! [decide_eq_false (show ¬ (many : Int) < 2 by omega)]
      omega
  · rintro e ⟨h2, rfl⟩
    refine seq_at 1 (fun e => e = [.p 1 (deckD gs s t), .v (.int (many : Nat)), .no, .no]) ?_ ?_
    · simp! [↓O.nne.call, deckD, ns_g]
      simp! [eq_ints, ns_g]
      rcases List.eq_nil_or_concat gs with rfl | ⟨gs, g, rfl⟩
      · simp! [List.map_nil, List.isEmpty_nil, deckD]
      · rw [List.concat_eq_append] at hl ⊢
        have hne : ((gs ++ [g]).map D.int).isEmpty = false := by simp
        simp! [hne, ↓O.npop.call]
        refine ⟨_, _, gs.map D.int, .int g, rfl, by rw [deckD, ns_g, List.map_append]; rfl, ?_⟩
        have hx := mod_lt (a := g) (show (0 : Int) < (many : Int) by omega)
        have fin : ∀ d', Dk d' → Q (.v (.int (g % (many : Int)))) [.p 1 d', .no] := fun d' hd' => by
          have := q (g % (many : Int)).toNat d' (by omega) hd'
          rwa [Int.toNat_of_nonneg hx.1] at this
        by_cases hgm : (many : Int) ≤ g
        · simp! [deckD, np_g, decide_eq_true hgm, ↓O.nhas.call, ↓O.napp.call]
          simp! [deckD, np_g, ns_g, ↓O.nhas.call, ↓O.napp.call]
          simp! [deckD, np_g, ns_g, ↓O.nhas.call, ↓O.napp.call]
          refine ⟨_, rfl, hdv g, sl_lt (by rw [List.length_map]; simp at hl; omega), by omega, rfl, fin _ ⟨gs ++ [g / (many : Int)], s, t, by rw [deckD, List.map_append]; rfl, by simp at hl ⊢; omega⟩⟩
        · simp! [deckD, np_g, decide_eq_false hgm]
          exact ⟨by omega, rfl, fin _ ⟨gs, s, t, rfl, by simp at hl; omega⟩⟩
    · rintro e rfl
      have y0 : ∀ (a m : Int), 0 < m → m ≤ 4294967296 → ∃ y : Int, (0 ≤ y ∧ y < 4294967296) ∧ a % m = y := fun a m h1 h2 => ⟨_, by have := mod_lt (a := a) h1; omega, rfl⟩
      refine seq_at 1 (fun e => e = [.p 1 (deckD gs s (t + 1)), .v (.int (many : Nat)), .no, .no]) ?_ ?_
      · simp! [deckD, lk_t, pt_t, sz3]
      · rintro e rfl
        refine seq_at 1 (fun e => ∃ y : Int, (0 ≤ y ∧ y < 4294967296) ∧ e = [.p 1 (deckD gs s (t + 1)), .v (.int (many : Nat)), .no, .v (.int y)]) ?_ ?_
        · simp! [deckD, lk_t, lk_m]
          refine ⟨.inl (.inl ⟨by decide, by decide⟩), by decide, _, ?_, rfl⟩
          have := mod_lt (a := s + 2654435761 * (t + 1)) (show (0 : Int) < 4294967279 by decide)
          omega
        · rintro e ⟨y, hy, rfl⟩
          refine seq_at 1 (fun e => ∃ y : Int, (0 ≤ y ∧ y < 4294967296) ∧ e = [.p 1 (deckD gs s (t + 1)), .v (.int (many : Nat)), .no, .v (.int y)]) ?_ ?_
          · simp! [deckD, lk_t, lk_m]
            refine ⟨.inl (.inl ⟨by omega, by omega⟩), .inl (.inl ⟨by decide, by decide⟩), by decide, _, ?_, rfl⟩
            have := mod_lt (a := y * y + 40692 * (t + 1) + 23) (show (0 : Int) < 4294967231 by decide)
            omega
          · rintro e ⟨y, hy, rfl⟩
            refine seq_at 1 (fun e => ∃ y : Int, (0 ≤ y ∧ y < 4294967296) ∧ e = [.p 1 (deckD gs s (t + 1)), .v (.int (many : Nat)), .no, .v (.int y)]) ?_ ?_
            · simp! [deckD, lk_t, lk_m]
              refine ⟨.inl (.inl ⟨by omega, by omega⟩), .inl (.inr ⟨by decide, by decide⟩), by decide, _, ?_, rfl⟩
              have := mod_lt (a := y * y + s * 11) (show (0 : Int) < 4294967197 by decide)
              omega
            · rintro e ⟨y, hy, rfl⟩
              simp! []
              have hx := mod_lt (a := y / 64) (show (0 : Int) < (many : Int) by omega)
              have := q (y / 64 % (many : Int)).toNat _ (by omega) ⟨gs, s, t + 1, rfl, hl⟩
              rw [Int.toNat_of_nonneg hx.1] at this
              exact ⟨div_ok (m := 64) (by decide) (by decide), by omega, rfl, this⟩
def pickC : Ctr where
  run := fun ss Q _ => ∃ (d : D) (ds : List D), ss = [.p 1 d, .v (.lst ds)] ∧ Dk d ∧ ds ≠ [] ∧ ds.length ≤ 16777216 ∧ ∀ (x d' : D), x ∈ ds → Dk d' → Q (.v x) [.p 1 d', .no]
  mono := fun {ss Q Q' E E'} ⟨d, ds, h1, h2, h3, h4, h5⟩ hq _ => ⟨d, ds, h1, h2, h3, h4, fun x d' a b => hq _ _ (h5 x d' a b)⟩
theorem wp_law_pick {T : Txt} (h111 : At T 111 dC [true, false]) : pickC.Le (ctrOf T 2 0 bd_law_pick) := by
  rintro ss Q E ⟨d, ds, rfl, hp, hne, hl, q⟩
  refine ⟨rfl, ?_⟩
  dsimp only [bd_law_pick]
  show wpSs _ _ [_, _] _
  have h0 : 0 < ds.length := List.length_pos_iff.mpr hne
  simp! [↓h111.call]
  refine ⟨d, ds.length, rfl, hp, h0, by omega, fun x d' hx hd' => ?_⟩
  simp! []
  refine ⟨_, atI_nat hx, ?_⟩
  simp! []
  exact ⟨rfl, q _ d' (List.getElem_mem hx) hd'⟩
end K79
end
section
open PySem PySem.Spec L2 DL TW G
set_option Elab.async false
set_option linter.all false
set_option maxRecDepth 100000
set_option maxHeartbeats 3900000
namespace K79
local macro_rules | `(tactic| simp! [$ls,*]) => `(tactic| (simp (config := {dsimp := false, failIfUnchanged := false}) only [List.take_succ_cons, List.take_zero, List.drop_succ_cons, List.drop_zero, restore, unlocks, unlockS, locks, lockS, hold_ap, mkR, DL.fresh, outsOk, borrows, backs, backS, lend1, hasN, lentOf, namedOf, allClean, Sl.clean, cleanN, cleanN.cleans, exClean, imm, imms, List.foldl_nil, List.foldl_cons, List.getElem?_cons_succ, List.getElem?_cons_zero, List.set_cons_succ, List.set_cons_zero, reduceIte, ite_true, if_true, if_false, Bool.false_eq_true, reduceCtorEq, Bool.true_and, Bool.and_true, Bool.or_true, Bool.true_or, Bool.or_false, Bool.false_or, Bool.not_false, Bool.not_true, Nat.reduceBEq, beq_self_eq_true, true_and, and_true]; simp (config := {dsimp := false, failIfUnchanged := false}) only [↓w_lit, ↓w_glb, ↓w_var, ↓w_mv, ↓w_pk, ↓w_fld, ↓w_prim, ↓w_chn, ↓w_bop, ↓w_ifx, ↓w_call, ↓w_nil, ↓w_cons, ↓w_b1, ↓w_b2, ↓w_t0, ↓w_t1, ↓k_asg, ↓k_par, ↓k_setx, ↓k_app, ↓k_ext, ↓k_exp, ↓k_ret, ↓k_ret0, ↓k_pas, ↓k_iff, ↓k_rse0, ↓k_rse1, ↓k_tri, ↓k_s0, ↓k_s1, ↓k_for, ↓k_h0, ↓k_h1, ↓h_comp, ↓w_pop, ↓r_srcE, ↓r_srcZ, ↓r_in, ↓r_nin, ↓r_sl11, keyI_hold, keyS_hold, ↓r_op1, ↓r_op2, ↓sum_l, ↓sum_t, ↓r_mulT, ↓r_dK1, ↓r_lrng, ↓r_nne, ↓r_nhas, ↓r_napp, ↓r_isi, ↓r_set2, ↓r_okPk, ↓r_okL, ↓r_primQ, ↓r_prim0, ↓r_nestQ, ↓r_tstQ, ↓r_truQ, ↓r_asgN, ↓r_asgT, ↓r_srcQ, ↓r_srcS, ↓r_srcR, ↓r_srcR2, ↓r_setxQ, ↓r_modQ, ↓r_appQ, ↓r_extQ, ↓r_retQ, ↓r_callL, argsS, argS, lend1, hasN, lentOf, namedOf, Nat.reduceBEq, beq_self_eq_true, Bool.not_false, Bool.not_true, ↓r_pAdd, ↓r_pMul, ↓r_p2I, ↓r_sub, ↓r_fdiv, ↓r_mod, ↓r_pow, ↓r_le, ↓r_gt, ↓r_ge, ↓r_neg, ↓r_nt, ↓r_eq, ↓r_ne, ↓r_lt, ↓r_idx, ↓r_pSl, ↓r_sl00, ↓r_sl10, ↓r_sl01, ↓r_rev, ↓r_len, ↓r_abs, ↓r_min2, ↓r_max2, ↓r_sum, ↓r_all, ↓r_any, ↓r_pInts, ↓r_pBls, ↓r_int, ↓r_bool, ↓r_str, ↓r_repr, ↓r_tuple, ↓r_list, ↓r_tupD, ↓r_lstD, ↓r_dK0, ↓r_dT0, some_hold, ints_hold, dat_cons, dat_nil, q_ii, q_ss, q_bb, v_ii, v_bb, v_ss, ln0, ln1, ln2, ln3, ln4, ln5, ln6, ln7, ln8, nestK, rzs, Sl.rz, okr, isDisp, Rz.flat, Rz.dat, Rz.isFr, setS, setAll, f_no, f_v, f_o, Sl.val, mkR, DL.fresh, seqOf, locks, unlocks, lockS, unlockS, imm, imms, immR, List.foldl_nil, List.foldl_cons, List.getElem?_cons_succ, List.getElem?_cons_zero, List.set_cons_succ, List.set_cons_zero, true_and, and_true, if_true, ite_true, if_false, List.all_cons, List.all_nil, Bool.and_true, Bool.true_and, Bool.or_true, Bool.true_or, Bool.or_false, Bool.false_or, reduceCtorEq, reduceIte, Bool.false_eq_true, $ls,*]))
local macro_rules | `(tactic| dsimp! [$ls,*]) => `(tactic| refine ⟨_, (by simp (config := {dsimp := false}) only [clr_eq, bindT, bindTs, setS, f_no, f_v, f_o, List.foldl_nil, List.foldl_cons, List.getElem?_cons_succ, List.getElem?_cons_zero, List.set_cons_succ, List.set_cons_zero, if_true, ite_true, reduceIte, $ls,*] <;> first | done | exact rfl), ?_⟩)
def townC : Ctr where
  run := fun ss Q _ => ∃ (d : D) (most more : Nat), ss = [.p 1 d, .v (.int (most : Nat)), .v (.int (more : Nat))] ∧ Dk d ∧ 0 < most ∧ most ≤ 8 ∧ more ≤ 8 ∧ ∀ (n : Nat) (rs : List (Nat × Nat)) (d' : D), Tw n rs → n ≤ most → Dk d' → Q (.v (townD n rs)) [.p 1 d', .no, .no]
  mono := fun {ss Q Q' E E'} ⟨d, most, more, h1, h2, h3, h4, h5, h6⟩ hq _ => ⟨d, most, more, h1, h2, h3, h4, h5, fun n rs d' a b c => hq _ _ (h6 n rs d' a b c)⟩
def pairI (r : Nat × Nat) : Int × Int := (r.1, r.2)
theorem back_pairs {rs : List (Nat × Nat)} {ms : List (Int × Int)} (h : ms.Perm (rs.map pairI)) : ∃ qs : List (Nat × Nat), ms = qs.map pairI ∧ qs.Perm rs := by
  have e : (ms.map fun p => (p.1.toNat, p.2.toNat)).map pairI = ms := by
    rw [List.map_map]
    refine (List.map_congr_left fun p hp => ?_).trans (List.map_id _)
    obtain ⟨r, _, rfl⟩ := List.mem_map.mp (h.mem_iff.mp hp)
    simp [pairI]
  refine ⟨ms.map fun p => (p.1.toNat, p.2.toNat), e.symm, ?_⟩
  have := h.map fun p : Int × Int => (p.1.toNat, p.2.toNat)
  rw [List.map_map] at this
  refine this.trans (List.Perm.of_eq ?_)
  refine (List.map_congr_left fun r _ => ?_).trans (List.map_id _)
  simp [pairI]
theorem wp_law_town {T : Txt} (h111 : At T 111 dC [true, false]) : townC.Le (ctrOf T 3 6 bd_law_town) := by
  rintro ss Q E ⟨d, most, more, rfl, hp, h0, h8, hm8, q⟩
  refine ⟨rfl, ?_⟩
  dsimp only [bd_law_town]
  show wpSs _ _ [_, _, _, _, _, _, _, _, _] _
  simp! [↓h111.call]
  refine ⟨d, most, rfl, hp, h0, by omega, fun k d1 hk hd1 => ?_⟩
  have fin : ∀ (rs : List (Nat × Nat)) (d' : D) (x y z w : Sl), rs.length ≤ 16 → (∀ r ∈ rs, r.1 < r.2 ∧ r.2 < k + 1) → Grown (k + 1) rs → Dk d' →
      wpSs T [.ret (.prim .tupD [.var 3, .prim .tuple [.prim .sorted [.pk 4]]])] [.p 1 d', .v (.int (most : Nat)), .v (.int (more : Nat)), .v (.int (1 + (k : Nat))), .o 0 (.lst (rs.map roadD)), x, y, z, w] ⟨fun e => Q (.v .non) (outs 3 e), fun s e => s.val.isSome = true ∧ Q s (outs 3 e), fun x e => E x (outs 3 e)⟩ := by
    intro rs d' x y z w hl hb hg hd'
    simp! []
    refine .inr ⟨rs.map pairI, ?_, fun ms h1 h2 => ?_⟩
    · rw [List.map_map]
      exact List.map_congr_left fun r _ => rfl
    · obtain ⟨qs, rfl, h3⟩ := back_pairs h1
      simp! []
      have e : (qs.map pairI).map (fun p => D.tup [.int p.1, .int p.2]) = qs.map roadD := by
        rw [List.map_map]
        exact List.map_congr_left fun r _ => rfl
      rw [e, show (1 : Int) + (k : Int) = ((k + 1 : Nat) : Int) by omega]
      refine ⟨rfl, q (k + 1) qs d' ⟨by omega, by omega, by rw [h3.length_eq]; exact hl, fun h a b => ?_, fun r hr => hb r (h3.mem_iff.mp hr), ?_⟩ (by omega) hd'⟩
      · obtain ⟨x, hx, hm⟩ := hg h a b
        exact ⟨x, hx, h3.mem_iff.mpr hm⟩
      · have := List.pairwise_map.mp h2
        exact this.imp fun {a b} h => by simp only [pairI] at h; omega
  simp! []
  refine ⟨rfl, ⟨by omega, by omega, by omega, by omega⟩, comp_inv (fun j a e => ∃ (rs : List (Nat × Nat)) (d' : D) (x : Sl), a = rs.map roadD ∧ rs.length = j ∧ j ≤ k ∧ (∀ r ∈ rs, r.1 < r.2 ∧ r.2 < k + 1) ∧ (∀ h, 0 < h → h < j + 1 → ∃ x, x < h ∧ (x, h) ∈ rs) ∧ Dk d' ∧ e = [.p 1 d', .v (.int (most : Nat)), .v (.int (more : Nat)), .v (.int (1 + (k : Nat))), .no, .no, .no, .no, x]) ⟨[], d1, .no, rfl, rfl, by omega, by simp, fun h _ _ => by omega, hd1, rfl⟩ ?_ ?_⟩
  · rintro i _ a e hi ⟨rs, d', x, rfl, hl, hk', hb, hg, hd', rfl⟩
    obtain ⟨rfl, hi⟩ := rngD_get hi
    dsimp! []
    simp! [↓h111.call]
    refine ⟨d', 1 + i, by rw [Int.natCast_add]; rfl, hd', by omega, by omega, fun x d2 hx hd2 => ?_⟩
    simp! []
    refine ⟨_, rfl, sl_lt (by rw [List.length_map]; omega), rs ++ [(x, 1 + i)], d2, _, by simp [roadD], by simp [hl], by omega, fun r hr => ?_, fun h h1 h2 => ?_, hd2, rfl⟩
    · rcases List.mem_append.mp hr with h | h
      · exact hb r h
      · rw [List.mem_singleton] at h; subst h; exact ⟨hx, by show 1 + i < k + 1; omega⟩
    · by_cases e : h = i + 1
      · exact ⟨x, by omega, by rw [e]; simp [Nat.add_comm]⟩
      · obtain ⟨y, hy, hm⟩ := hg h h1 (by omega)
        exact ⟨y, hy, List.mem_append_left _ hm⟩
  · rintro a e ⟨rs, d', x, rfl, hl, hk', hb, hg, hd', rfl⟩
    rw [rngD_len] at hl hk'; simp only [rngD_len] at hg
    by_cases hk : k = 0
    · subst hk
      simp! [decide_eq_false (show ¬ ((1 : Int) < 1 + ((0 : Nat) : Int)) by omega)]
      exact ⟨by omega, by omega, fin rs d' .no .no .no .no (by omega) hb (fun h h1 h2 => by omega) hd'⟩
    · simp! [decide_eq_true (show (1 : Int) < 1 + (k : Int) by omega), ↓h111.call]
      refine ⟨d', more + 1, rfl, hd', by omega, by omega, fun t d2 ht hd2 => ?_⟩
      simp! []
      refine ⟨by omega, by omega, for_inv (fun j e => ∃ (qs : List (Nat × Nat)) (d' : D) (x y z : Sl), (x.free = true ∧ y.free = true ∧ z.free = true) ∧ (∀ r ∈ rs ++ qs, r.1 < r.2 ∧ r.2 < k + 1) ∧ qs.length ≤ j ∧ Dk d' ∧ e = [.p 1 d', .v (.int (most : Nat)), .v (.int (more : Nat)), .v (.int (1 + (k : Nat))), .o 0 (.lst ((rs ++ qs).map roadD)), x, y, z, .no]) ⟨[], d2, .no, .no, .no, ⟨f_no, f_no, f_no⟩, by simpa using hb, by simp, hd2, by simp⟩ ?_ ?_⟩
      · rintro i _ e hi ⟨qs, d', x, y, z, ⟨hx, hy, hz⟩, hb, hql, hd', rfl⟩
        obtain ⟨rfl, hi⟩ := rngD_get hi
        dsimp! [hx]
        simp! [↓h111.call]
        refine ⟨d', 1 + k, by rw [Int.natCast_add]; rfl, hd', by omega, by omega, fun u d2 hu hd2 => ?_⟩
        simp! [hy, ↓h111.call]
        refine ⟨d2, k, by rw [show (1 : Int) + (k : Int) - 1 = (k : Int) by omega], hd2, by omega, by omega, fun v d3 hv hd3 => ?_⟩
        simp! [hz]
        have hm := mod_lt (a := (u : Int) + 1 + (v : Int)) (show (0 : Int) < 1 + (k : Int) by omega)
        obtain ⟨w, hw⟩ : ∃ w : Nat, ((u : Int) + 1 + (v : Int)) % (1 + (k : Int)) = (w : Int) := ⟨_, (Int.toNat_of_nonneg hm.1).symm⟩
        have huw : u ≠ w := by
          intro e
          rcases Nat.lt_or_ge (u + 1 + v) (1 + k) with h | h
          · rw [Int.emod_eq_of_lt (by omega) (by omega)] at hw; omega
          · have : ((u : Int) + 1 + (v : Int)) % (1 + (k : Int)) = ((u : Int) + 1 + (v : Int)) - (1 + (k : Int)) := by
              rw [← Int.emod_eq_of_lt (a := (u : Int) + 1 + (v : Int) - (1 + (k : Int))) (b := 1 + (k : Int)) (by omega) (by omega), Int.sub_emod_right]
            omega
        rw [hw] at hm ⊢
        have e : ∀ a b : Nat, a ≠ b → ∃ x y : Nat, (D.tup [D.int (if (b : Int) < (a : Int) then (b : Int) else a), D.int (if (b : Int) > (a : Int) then (b : Int) else a)] = roadD (x, y)) ∧ x < y ∧ (y = a ∨ y = b) := fun a b hab => by
          rcases Nat.lt_or_gt_of_ne hab with h | h
          · exact ⟨a, b, by rw [if_neg (by omega), if_pos (by omega)], h, .inr rfl⟩
          · exact ⟨b, a, by rw [if_pos (by omega), if_neg (by omega)], h, .inl rfl⟩
        obtain ⟨x', y', e1, e2, e3⟩ := e u w huw
        have e4 : (rs ++ (qs ++ [(x', y')])).map roadD = (rs ++ qs).map roadD ++ [roadD (x', y')] := by rw [← List.append_assoc, List.map_append]; rfl
        rw [e1]
        refine ⟨by omega, sl_lt (by simp; omega), qs ++ [(x', y')], d3, _, _, _, ⟨f_v, f_v, f_v⟩, fun r hr => ?_, by simp; omega, hd3, by rw [e4]⟩
        rw [← List.append_assoc] at hr
        rcases List.mem_append.mp hr with h | h
        · exact hb r h
        · rw [List.mem_singleton] at h; subst h; exact ⟨e2, by show y' < k + 1; omega⟩
      · rintro e ⟨qs, d', x, y, z, ⟨hx, hy, hz⟩, hb, hql, hd', rfl⟩
        rw [rngD_len] at hql
        exact fin _ d' _ _ _ _ (by simp; omega) hb (fun h h1 h2 => by obtain ⟨x, hx, hm⟩ := hg h h1 (by omega); exact ⟨x, hx, List.mem_append_left _ hm⟩) hd'
end K79
end
section
open PySem PySem.Spec L2 DL TW G
set_option Elab.async false
set_option linter.all false
set_option maxRecDepth 100000
set_option maxHeartbeats 3900000
namespace K79
local macro_rules | `(tactic| simp! [$ls,*]) => `(tactic| (simp (config := {dsimp := false, failIfUnchanged := false}) only [List.take_succ_cons, List.take_zero, List.drop_succ_cons, List.drop_zero, restore, unlocks, unlockS, locks, lockS, hold_ap, mkR, DL.fresh, outsOk, borrows, backs, backS, lend1, hasN, lentOf, namedOf, allClean, Sl.clean, cleanN, cleanN.cleans, exClean, imm, imms, List.foldl_nil, List.foldl_cons, List.getElem?_cons_succ, List.getElem?_cons_zero, List.set_cons_succ, List.set_cons_zero, reduceIte, ite_true, if_true, if_false, Bool.false_eq_true, reduceCtorEq, Bool.true_and, Bool.and_true, Bool.or_true, Bool.true_or, Bool.or_false, Bool.false_or, Bool.not_false, Bool.not_true, Nat.reduceBEq, beq_self_eq_true, true_and, and_true]; simp (config := {dsimp := false, failIfUnchanged := false}) only [↓w_lit, ↓w_glb, ↓w_var, ↓w_mv, ↓w_pk, ↓w_fld, ↓w_prim, ↓w_chn, ↓w_bop, ↓w_ifx, ↓w_call, ↓w_nil, ↓w_cons, ↓w_b1, ↓w_b2, ↓w_t0, ↓w_t1, ↓k_asg, ↓k_par, ↓k_setx, ↓k_app, ↓k_ext, ↓k_exp, ↓k_ret, ↓k_ret0, ↓k_pas, ↓k_iff, ↓k_rse0, ↓k_rse1, ↓k_tri, ↓k_s0, ↓k_s1, ↓k_for, ↓k_h0, ↓k_h1, ↓h_comp, ↓w_pop, ↓r_srcE, ↓r_srcZ, ↓r_in, ↓r_nin, ↓r_sl11, keyI_hold, keyS_hold, ↓r_op1, ↓r_op2, ↓sum_l, ↓sum_t, ↓r_mulT, ↓r_dK1, ↓r_lrng, ↓r_nne, ↓r_nhas, ↓r_napp, ↓r_isi, ↓r_set2, ↓r_okPk, ↓r_okL, ↓r_primQ, ↓r_prim0, ↓r_nestQ, ↓r_tstQ, ↓r_truQ, ↓r_asgN, ↓r_asgT, ↓r_srcQ, ↓r_srcS, ↓r_srcR, ↓r_srcR2, ↓r_setxQ, ↓r_modQ, ↓r_appQ, ↓r_extQ, ↓r_retQ, ↓r_callL, argsS, argS, lend1, hasN, lentOf, namedOf, Nat.reduceBEq, beq_self_eq_true, Bool.not_false, Bool.not_true, ↓r_pAdd, ↓r_pMul, ↓r_p2I, ↓r_sub, ↓r_fdiv, ↓r_mod, ↓r_pow, ↓r_le, ↓r_gt, ↓r_ge, ↓r_neg, ↓r_nt, ↓r_eq, ↓r_ne, ↓r_lt, ↓r_idx, ↓r_pSl, ↓r_sl00, ↓r_sl10, ↓r_sl01, ↓r_rev, ↓r_len, ↓r_abs, ↓r_min2, ↓r_max2, ↓r_sum, ↓r_all, ↓r_any, ↓r_pInts, ↓r_pBls, ↓r_int, ↓r_bool, ↓r_str, ↓r_repr, ↓r_tuple, ↓r_list, ↓r_tupD, ↓r_lstD, ↓r_dK0, ↓r_dT0, some_hold, ints_hold, dat_cons, dat_nil, q_ii, q_ss, q_bb, v_ii, v_bb, v_ss, ln0, ln1, ln2, ln3, ln4, ln5, ln6, ln7, ln8, nestK, rzs, Sl.rz, okr, isDisp, Rz.flat, Rz.dat, Rz.isFr, setS, setAll, f_no, f_v, f_o, Sl.val, mkR, DL.fresh, seqOf, locks, unlocks, lockS, unlockS, imm, imms, immR, List.foldl_nil, List.foldl_cons, List.getElem?_cons_succ, List.getElem?_cons_zero, List.set_cons_succ, List.set_cons_zero, true_and, and_true, if_true, ite_true, if_false, List.all_cons, List.all_nil, Bool.and_true, Bool.true_and, Bool.or_true, Bool.true_or, Bool.or_false, Bool.false_or, reduceCtorEq, reduceIte, Bool.false_eq_true, $ls,*]))
local macro_rules | `(tactic| dsimp! [$ls,*]) => `(tactic| refine ⟨_, (by simp (config := {dsimp := false}) only [clr_eq, bindT, bindTs, setS, f_no, f_v, f_o, List.foldl_nil, List.foldl_cons, List.getElem?_cons_succ, List.getElem?_cons_zero, List.set_cons_succ, List.set_cons_zero, if_true, ite_true, reduceIte, $ls,*] <;> first | done | exact rfl), ?_⟩)
def isNum : D → Bool
  | .int _ => true
  | _ => false
def numC : Ctr where
  run := fun ss Q _ => ∃ d : D, ss = [.v d] ∧ notScr d = true ∧ Q (.v (.bl (isNum d))) [.no]
  mono := fun {ss Q Q' E E'} ⟨d, h1, h2, h3⟩ hq _ => ⟨d, h1, h2, hq _ _ h3⟩
theorem isNum_eq (d : D) : (isTy d .int && !isTy d .bool) = isNum d := by cases d <;> rfl
theorem wp_is_number {T : Txt} (O : OpsB T) : numC.Le (ctrOf T 1 0 bd_is_number) := by
  rintro ss Q E ⟨d, rfl, hd, q⟩
  refine ⟨rfl, ?_⟩
  dsimp only [bd_is_number]
  show wpSs _ _ [_] _
  simp! [↓O.isI.call, ↓O.isB.call, hd]
  have e := isNum_eq d
  cases h1 : isTy d .int with
  | false =>
    rw [h1] at e
    simp! [↓O.isB.call, hd]
    rw [show false = isNum d by rw [← e]; rfl]
    exact ⟨rfl, q⟩
  | true =>
    rw [h1] at e
    simp! [↓O.isB.call, hd]
    simp! []
    rw [show (!isTy d .bool) = isNum d by rw [← e]; rfl]
    exact ⟨rfl, q⟩
def inB (a b : Int) : D → Bool
  | .int i => decide (a ≤ i) && decide (i ≤ b)
  | _ => false
def withinC : Ctr where
  run := fun ss Q _ => ∃ (d : D) (a b : Int), ss = [.v d, .v (.int a), .v (.int b)] ∧ notScr d = true ∧ Q (.v (.bl (inB a b d))) [.no, .no, .no]
  mono := fun {ss Q Q' E E'} ⟨d, a, b, h1, h2, h3⟩ hq _ => ⟨d, a, b, h1, h2, hq _ _ h3⟩
theorem wp_is_within {T : Txt} (h120 : At T 120 numC [false]) : withinC.Le (ctrOf T 3 0 bd_is_within) := by
  rintro ss Q E ⟨d, a, b, rfl, hd, q⟩
  refine ⟨rfl, ?_⟩
  dsimp only [bd_is_within]
  show wpSs _ _ [_, _, _] _
  simp! [↓h120.call]
  refine ⟨d, rfl, hd, ?_⟩
  cases d with
  | int i =>
    simp! [isNum]
    by_cases h1 : a ≤ i
    · simp! [decide_eq_true h1]
      have q : Q (.v (.bl (decide (i ≤ b)))) [.no, .no, .no] := by simpa [inB, decide_eq_true h1] using q
      exact ⟨rfl, q⟩
    · simp! [decide_eq_false h1]
      have q : Q (.v (.bl false)) [.no, .no, .no] := by simpa [inB, decide_eq_false h1] using q
      exact ⟨rfl, q⟩
  | _ =>
    simp! [isNum]
    exact ⟨rfl, q⟩
def rowLike (m : Nat) : D → Bool
  | .tup xs => decide (xs.length = m)
  | _ => false
def isRowC : Ctr where
  run := fun ss Q _ => ∃ (n : Nat) (rs : List (Nat × Nat)) (d : D), ss = [.v (townD n rs), .v d] ∧ notScr d = true ∧ Q (.v (.bl (rowLike rs.length d))) [.no, .no]
  mono := fun {ss Q Q' E E'} ⟨n, rs, d, h1, h2, h3⟩ hq _ => ⟨n, rs, d, h1, h2, hq _ _ h3⟩
theorem len_eq {a b : Nat} : decide (((a : Nat) : Int) = (b : Nat)) = decide (a = b) := by
  rw [decide_eq_decide]; omega
theorem wp_is_row {T : Txt} (O : OpsB T) : isRowC.Le (ctrOf T 2 0 bd_is_row) := by
  rintro ss Q E ⟨n, rs, d, rfl, hd, q⟩
  refine ⟨rfl, ?_⟩
  dsimp only [bd_is_row]
  show wpSs _ _ [_, _] _
  cases d with
  | tup xs =>
    simp! [↓O.isT.call, notScr, isTy, atI1, List.length_map, len_eq]
    simp! [atI1, List.length_map, len_eq]
    exact ⟨rfl, q⟩
  | scr _ => cases hd
  | _ =>
    simp! [↓O.isT.call, notScr, isTy, atI1]
    simp! []
    exact ⟨rfl, q⟩
/-! ### flows judged -/
def okItem (d : D) : Bool := inB (-1000) 1000 d
def errAt (xs : List D) : D := match xs.findIdx? (fun x => !okItem x) with
  | some i => .tup [.str "road", .int (i : Nat)]
  | none => .non
def flowErr (m : Nat) : D → D
  | .tup xs => if xs.length = m then errAt xs else .str "form"
  | _ => .str "form"
theorem errAt_some {xs : List D} {i : Nat} {d : D} (h : xs[i]? = some d) (hb : ∀ x ∈ xs.take i, okItem x = true) (hd : okItem d = false) : errAt xs = .tup [.str "road", .int (i : Nat)] := by
  have : xs.findIdx? (fun x => !okItem x) = some i := by
    obtain ⟨hi, rfl⟩ := List.getElem?_eq_some_iff.mp h
    rw [List.findIdx?_eq_some_iff_getElem]
    refine ⟨hi, by simp [hd], fun j hj => ?_⟩
    have := hb xs[j] (by rw [List.mem_take_iff_getElem]; exact ⟨j, by omega, rfl⟩)
    simp [this]
  unfold errAt
  rw [this]
theorem errAt_none {xs : List D} (hb : ∀ x ∈ xs, okItem x = true) : errAt xs = .non := by
  have : xs.findIdx? (fun x => !okItem x) = none := by
    rw [List.findIdx?_eq_none_iff]
    intro x hx
    simp [hb x hx]
  unfold errAt
  rw [this]
/-- what may be handed in -/
structure Any (d : D) : Prop where
  pl : DL.plain d = true
  sz : ∀ xs, (d = .tup xs ∨ d = .lst xs) → xs.length ≤ 1000
theorem plain_ns {d : D} (h : DL.plain d = true) : notScr d = true := by cases d <;> first | rfl | cases h
theorem plain_items {xs : List D} (h : plains xs = true) : ∀ x ∈ xs, DL.plain x = true := by
  induction xs with
  | nil => intro x hx; cases hx
  | cons y ys ih =>
    simp only [plains, Bool.and_eq_true] at h
    intro x hx
    rcases List.mem_cons.mp hx with rfl | hx  -- so
    · exact h.1
    · exact ih h.2 x hx
def flowErrC : Ctr where
  run := fun ss Q _ => ∃ (n : Nat) (rs : List (Nat × Nat)) (d : D), ss = [.v (townD n rs), .v d] ∧ Any d ∧ Q (.v (flowErr rs.length d)) [.no, .no]
  mono := fun {ss Q Q' E E'} ⟨n, rs, d, h1, h2, h3⟩ hq _ => ⟨n, rs, d, h1, h2, hq _ _ h3⟩
theorem wp_flow_error {T : Txt} (hc : T.cst 0 = .int 1000) (h121 : At T 121 withinC [false, false, false]) (h122 : At T 122 isRowC [false, false]) : flowErrC.Le (ctrOf T 2 2 bd_flow_error) := by
  rintro ss Q E ⟨n, rs, d, rfl, hd, q⟩
  refine ⟨rfl, ?_⟩
  dsimp only [bd_flow_error]
  show wpSs _ _ [_, _, _, _] _
  refine seq_at 1 (fun e => rowLike rs.length d = true ∧ e = [.v (townD n rs), .v d, .no, .no]) ?_ ?_
  · simp! [↓h122.call]
    refine ⟨n, rs, d, rfl, plain_ns hd.pl, ?_⟩
    cases hr : rowLike rs.length d with
    | true => simp! []
    | false =>
      simp! []
      have : flowErr rs.length d = .str "form" := by
        cases d <;> first | rfl | (simp only [rowLike, decide_eq_false_iff_not] at hr; simp [flowErr, hr])
      rw [← this]
      exact ⟨rfl, q⟩
  · rintro e ⟨hr, rfl⟩
    cases d with
    | tup xs =>
      have hx : xs.length = rs.length := by simpa [rowLike] using hr
      have e1 : flowErr rs.length (.tup xs) = errAt xs := by simp [flowErr, hx]
      rw [e1] at q
      have hp := plain_items hd.pl
      simp! []
      refine for_inv (fun k e => ∃ x y, (x.free = true ∧ y.free = true) ∧ (∀ z ∈ xs.take k, okItem z = true) ∧ e = [.v (townD n rs), .v (.tup xs), x, y]) ⟨_, _, ⟨f_no, f_no⟩, by simp, rfl⟩ ?_ ?_
      · rintro i d' e hd' ⟨x, y, ⟨fx, fy⟩, hb, rfl⟩
        obtain ⟨z, hz, rfl⟩ := enum_get hd'
        have hzm := List.mem_of_getElem? hz
        dsimp! [fx, fy]
        simp! [hc, ↓h121.call]
        refine ⟨z, -1000, 1000, rfl, plain_ns (hp z hzm), ?_⟩
        cases ho : okItem z with
        | true =>
          have ho' : inB (-1000) 1000 z = true := ho
          simp! [ho']
          refine ⟨_, _, ⟨f_v, f_v⟩, fun w hw => ?_, rfl⟩
          rw [List.take_add_one, hz] at hw
          rcases List.mem_append.mp hw with hw | hw
          · exact hb w hw
          · have : w = z := by simpa using hw
            rw [this]; exact ho
        | false =>
          have ho' : inB (-1000) 1000 z = false := ho
          simp! [ho']
          rw [errAt_some hz hb ho] at q
          exact ⟨rfl, q⟩
      · rintro e ⟨x, y, ⟨fx, fy⟩, hb, rfl⟩
        simp! []
        rw [enum_len, List.take_length] at hb
        rw [errAt_none hb] at q
        exact ⟨rfl, q⟩
    | _ => cases hr
theorem wp_law_flow_due {T : Txt} (O : OpsB T) : flowErrC.Le (ctrOf T 2 2 bd_law_flow_due) := by
  rintro ss Q E ⟨n, rs, d, rfl, hd, q⟩
  refine ⟨rfl, ?_⟩
  dsimp only [bd_law_flow_due]
  show wpSs _ _ [_, _, _, _] _
  refine seq_at 1 (fun e => rowLike rs.length d = true ∧ e = [.v (townD n rs), .v d, .no, .no]) ?_ ?_
  · cases d with
    | tup xs =>
      simp! [↓O.isT.call, notScr, isTy, atI1, List.length_map]
      simp! [atI1, List.length_map]
      by_cases hx : xs.length = rs.length
      · simp! [decide_eq_true (show ((xs.length : Nat) : Int) = (rs.length : Nat) by omega), rowLike, decide_eq_true hx]
      · simp! [decide_eq_false (show ¬ ((xs.length : Nat) : Int) = (rs.length : Nat) by omega)]
        have : flowErr rs.length (.tup xs) = .str "form" := by simp [flowErr, hx]
        rw [← this]
        exact ⟨rfl, q⟩
    | scr _ => cases hd.pl
    | _ =>
      simp! [↓O.isT.call, notScr, isTy, atI1]
      simp! []
      exact ⟨rfl, q⟩
  · rintro e ⟨hr, rfl⟩
    cases d with
    | tup xs =>
      have hx : xs.length = rs.length := by simpa [rowLike] using hr
      have e1 : flowErr rs.length (.tup xs) = errAt xs := by simp [flowErr, hx]
      rw [e1] at q
      have hp := plain_items hd.pl
      simp! []
      refine for_inv (fun k e => ∃ x y, (x.free = true ∧ y.free = true) ∧ (∀ z ∈ xs.take k, okItem z = true) ∧ e = [.v (townD n rs), .v (.tup xs), x, y]) ⟨_, _, ⟨f_no, f_no⟩, by simp, rfl⟩ ?_ ?_
      · rintro i d' e hd' ⟨x, y, ⟨fx, fy⟩, hb, rfl⟩
        obtain ⟨z, hz, rfl⟩ := enum_get hd'
        have hzm := List.mem_of_getElem? hz
        have tk : okItem z = true → ∀ w ∈ xs.take (i + 1), okItem w = true := fun ho w hw => by
          rw [List.take_add_one, hz] at hw
          rcases List.mem_append.mp hw with hw | hw
          · exact hb w hw
          · have : w = z := by simpa using hw
            rw [this]; exact ho
        have bad : okItem z = false → Q (.v (.tup [.str "road", .int (i : Nat)])) [.no, .no] := fun ho => by rw [errAt_some hz hb ho] at q; exact q
        dsimp! [fx, fy]
        cases z with
        | int v =>
          simp! [↓O.isI.call, ↓O.isB.call, notScr, isTy]
          simp! [↓O.isB.call, notScr, isTy]
          simp! []
          by_cases hv : 1000 < (if v < 0 then -v else v)
          · simp! [decide_eq_true hv]
            exact ⟨rfl, bad (by simp only [okItem, inB]; rw [Bool.and_eq_false_iff]; simp only [decide_eq_false_iff_not]; split at hv <;> omega)⟩
          · simp! [decide_eq_false hv]
            exact ⟨_, _, ⟨f_v, f_v⟩, tk (by simp only [okItem, inB, Bool.and_eq_true, decide_eq_true_eq]; split at hv <;> omega), rfl⟩
        | bl b =>
          simp! [↓O.isI.call, ↓O.isB.call, notScr, isTy]
          simp! [↓O.isB.call, notScr, isTy]
          simp! []
          exact ⟨rfl, bad rfl⟩
        | scr _ => exact absurd (hp _ hzm) (by simp [DL.plain])
        | _ =>
          simp! [↓O.isI.call, notScr, isTy]
          simp! []
          exact ⟨rfl, bad rfl⟩
      · rintro e ⟨x, y, ⟨fx, fy⟩, hb, rfl⟩
        simp! []
        rw [enum_len, List.take_length] at hb
        rw [errAt_none hb] at q
        exact ⟨rfl, q⟩
    | _ => cases hr
end K79
end
section
open PySem PySem.Spec L2 DL TW G
set_option Elab.async false
set_option linter.all false
set_option maxRecDepth 100000
set_option maxHeartbeats 3900000
namespace K79
local macro_rules | `(tactic| simp! [$ls,*]) => `(tactic| (simp (config := {dsimp := false, failIfUnchanged := false}) only [List.take_succ_cons, List.take_zero, List.drop_succ_cons, List.drop_zero, restore, unlocks, unlockS, locks, lockS, hold_ap, mkR, DL.fresh, outsOk, borrows, backs, backS, lend1, hasN, lentOf, namedOf, allClean, Sl.clean, cleanN, cleanN.cleans, exClean, imm, imms, List.foldl_nil, List.foldl_cons, List.getElem?_cons_succ, List.getElem?_cons_zero, List.set_cons_succ, List.set_cons_zero, reduceIte, ite_true, if_true, if_false, Bool.false_eq_true, reduceCtorEq, Bool.true_and, Bool.and_true, Bool.or_true, Bool.true_or, Bool.or_false, Bool.false_or, Bool.not_false, Bool.not_true, Nat.reduceBEq, beq_self_eq_true, true_and, and_true]; simp (config := {dsimp := false, failIfUnchanged := false}) only [↓w_lit, ↓w_glb, ↓w_var, ↓w_mv, ↓w_pk, ↓w_fld, ↓w_prim, ↓w_chn, ↓w_bop, ↓w_ifx, ↓w_call, ↓w_nil, ↓w_cons, ↓w_b1, ↓w_b2, ↓w_t0, ↓w_t1, ↓k_asg, ↓k_par, ↓k_setx, ↓k_app, ↓k_ext, ↓k_exp, ↓k_ret, ↓k_ret0, ↓k_pas, ↓k_iff, ↓k_rse0, ↓k_rse1, ↓k_tri, ↓k_s0, ↓k_s1, ↓k_for, ↓k_h0, ↓k_h1, ↓h_comp, ↓w_pop, ↓r_srcE, ↓r_srcZ, ↓r_in, ↓r_nin, ↓r_sl11, keyI_hold, keyS_hold, ↓r_op1, ↓r_op2, ↓sum_l, ↓sum_t, ↓r_mulT, ↓r_dK1, ↓r_lrng, ↓r_nne, ↓r_nhas, ↓r_napp, ↓r_isi, ↓r_set2, ↓r_okPk, ↓r_okL, ↓r_primQ, ↓r_prim0, ↓r_nestQ, ↓r_tstQ, ↓r_truQ, ↓r_asgN, ↓r_asgT, ↓r_srcQ, ↓r_srcS, ↓r_srcR, ↓r_srcR2, ↓r_setxQ, ↓r_modQ, ↓r_appQ, ↓r_extQ, ↓r_retQ, ↓r_callL, argsS, argS, lend1, hasN, lentOf, namedOf, Nat.reduceBEq, beq_self_eq_true, Bool.not_false, Bool.not_true, ↓r_pAdd, ↓r_pMul, ↓r_p2I, ↓r_sub, ↓r_fdiv, ↓r_mod, ↓r_pow, ↓r_le, ↓r_gt, ↓r_ge, ↓r_neg, ↓r_nt, ↓r_eq, ↓r_ne, ↓r_lt, ↓r_idx, ↓r_pSl, ↓r_sl00, ↓r_sl10, ↓r_sl01, ↓r_rev, ↓r_len, ↓r_abs, ↓r_min2, ↓r_max2, ↓r_sum, ↓r_all, ↓r_any, ↓r_pInts, ↓r_pBls, ↓r_int, ↓r_bool, ↓r_str, ↓r_repr, ↓r_tuple, ↓r_list, ↓r_tupD, ↓r_lstD, ↓r_dK0, ↓r_dT0, some_hold, ints_hold, dat_cons, dat_nil, q_ii, q_ss, q_bb, v_ii, v_bb, v_ss, ln0, ln1, ln2, ln3, ln4, ln5, ln6, ln7, ln8, nestK, rzs, Sl.rz, okr, isDisp, Rz.flat, Rz.dat, Rz.isFr, setS, setAll, f_no, f_v, f_o, Sl.val, mkR, DL.fresh, seqOf, locks, unlocks, lockS, unlockS, imm, imms, immR, List.foldl_nil, List.foldl_cons, List.getElem?_cons_succ, List.getElem?_cons_zero, List.set_cons_succ, List.set_cons_zero, true_and, and_true, if_true, ite_true, if_false, List.all_cons, List.all_nil, Bool.and_true, Bool.true_and, Bool.or_true, Bool.true_or, Bool.or_false, Bool.false_or, reduceCtorEq, reduceIte, Bool.false_eq_true, $ls,*]))
local macro_rules | `(tactic| dsimp! [$ls,*]) => `(tactic| refine ⟨_, (by simp (config := {dsimp := false}) only [clr_eq, bindT, bindTs, setS, f_no, f_v, f_o, List.foldl_nil, List.foldl_cons, List.getElem?_cons_succ, List.getElem?_cons_zero, List.set_cons_succ, List.set_cons_zero, if_true, ite_true, reduceIte, $ls,*] <;> first | done | exact rfl), ?_⟩)
def flowC : Ctr where
  run := fun ss Q E => ∃ (n : Nat) (rs : List (Nat × Nat)) (p : List Int), ss = [.v (townD n rs), .v (rowD p)] ∧ (∀ r ∈ rs, r.1 < n ∧ r.2 < n) ∧ n ≤ 1000 ∧ rs.length ≤ 1000 ∧ p.length = n ∧ (p.sum = 0 → Q (.v (rowD (flowF n rs p))) [.no, .no]) ∧ (p.sum ≠ 0 → E ⟨1, none⟩ [.no, .no])
  mono := fun {ss Q Q' E E'} ⟨n, rs, p, h1, h2, h3, h4, h5, h6, h7⟩ hq he => ⟨n, rs, p, h1, h2, h3, h4, h5, fun h => hq _ _ (h6 h), fun h => he _ _ (h7 h)⟩
theorem wp_flow_for {T : Txt} (O : Ops T) (h100 : At T 100 reachedC [false, false, false]) (h101 : At T 101 moneyC [false]) (h104 : At T 104 treeC [false]) : flowC.Le (ctrOf T 2 6 bd_flow_for) := by
  rintro ss Q E ⟨n, rs, p, rfl, hr, hn, hl, hp, q0, qx⟩
  refine ⟨rfl, ?_⟩
  dsimp only [bd_flow_for]
  show wpSs _ _ [_, _, _, _, _, _, _, _] _
  simp! [↓h101.call]
  refine ⟨p, rfl, ?_⟩
  by_cases h0 : p.sum = 0
  case neg =>
    simp! [decide_eq_false h0]
    exact qx h0
  have q := q0 h0
  simp! [decide_eq_true h0, ↓h104.call, atI1, List.length_map]
  refine ⟨by omega, by omega, sl_le (by simp; omega), ⟨n, rs, rfl, hr, hn, hl, ?_⟩⟩
  simp! []
  have hlt : ∀ k ∈ treeF rs, k < rs.length := fun k hk => treeF_lt hk
  have htl := treeF_len (rs := rs)
  refine for_inv (fun k e => ∃ x y, (x.free = true ∧ y.free = true) ∧ e = [.v (townD n rs), .v (rowD p), .o 0 (.lst ((flowL n rs p ((treeF rs).take k)).map D.int)), .w false 0 (.lst (natsD (treeF rs))), x, y, .no, .no]) ⟨_, _, ⟨f_no, f_no⟩, ?_⟩ ?_ ?_
  · rw [rep_flat]
    have : flowL n rs p ((treeF rs).take 0) = List.replicate rs.length 0 := rfl
    rw [this, List.map_replicate]
    simp
  · rintro i d e hd ⟨x, y, ⟨hx, hy⟩, rfl⟩
    rw [List.getElem?_map] at hd
    obtain ⟨k, hk1, rfl⟩ := Option.map_eq_some_iff.mp hd
    have hk := List.mem_of_getElem? hk1
    have hkl := hlt k hk
    have e2 : flowL n rs p ((treeF rs).take (i + 1)) = (flowL n rs p ((treeF rs).take i)).set k (farSum n rs p k) := by
      rw [List.take_add_one, hk1]
      unfold flowL
      rw [List.foldl_append]; rfl
    rw [e2]
    have hgl : (flowL n rs p ((treeF rs).take i)).length = rs.length := flowL_len _
    generalize flowL n rs p ((treeF rs).take i) = g at hgl ⊢
    dsimp! [hx]
    simp! [hy]
    refine ⟨rfl, comp_filter (fun d => decide (natOf d ≠ k)) (roadAt rs) (fun e => ∃ x, e = [.v (townD n rs), .v (rowD p), .o 0 (.lst (g.map D.int)), .w false 0 (.lst (natsD (treeF rs))), .v (.int (k : Nat)), y, x, .no]) ⟨_, rfl⟩ (by rw [List.length_map]; exact sl_le (by omega)) ?_ ?_⟩
    · rintro d e hd ⟨x, rfl⟩
      obtain ⟨j, hj, rfl⟩ := List.mem_map.mp hd
      dsimp! []
      by_cases hjk : j = k
      · subst hjk
        simp! [decide_true, atI1]
        exact ⟨by simp [natOf], _, rfl⟩
      · simp! [decide_eq_false (show ¬ ((j : Nat) : Int) = (k : Nat) by omega), atI1, atI_road (hlt j hj)]
        exact ⟨by simp [natOf, hjk], by simp [roadAt, natOf], _, rfl⟩
    · rintro e ⟨x, rfl⟩
      have e3 : ((natsD (treeF rs)).filter fun d => decide (natOf d ≠ k)).map (roadAt rs) = (esAt rs ((treeF rs).filter fun o => decide (o ≠ k))).map roadD := by
        have : (natsD (treeF rs)).filter (fun d => decide (natOf d ≠ k)) = natsD ((treeF rs).filter fun o => decide (o ≠ k)) := by
          unfold natsD
          rw [List.filter_map]
          congr 1
        rw [this, roads_at]
      rw [e3]
      simp! [hy, atI0, atI1, atI_road hkl, ↓h100.call]
      refine ⟨n, (rd rs k).2, _, _, rfl, .inl rfl, esAt_lt hr (fun j hj => hlt j (List.mem_filter.mp hj).1), (esAt_lt hr hlt _ (List.mem_map_of_mem hk)).2, hn, ?_⟩
      simp! [cleans_natsP]
      have hS : ∀ v ∈ reachF n (esAt rs ((treeF rs).filter fun o => decide (o ≠ k))) (rd rs k).2, v < p.length := fun v hv => by rw [hp]; exact (mem_reach.mp hv).1
      have hSl : (reachF n (esAt rs ((treeF rs).filter fun o => decide (o ≠ k))) (rd rs k).2).length ≤ n := reach_len
      have eS : farSum n rs p k = ((reachF n (esAt rs ((treeF rs).filter fun o => decide (o ≠ k))) (rd rs k).2).map fun h => p.getD h 0).sum := rfl
      rw [eS]
      generalize reachF n (esAt rs ((treeF rs).filter fun o => decide (o ≠ k))) (rd rs k).2 = S at hS hSl ⊢
      refine ⟨rfl, comp_map' (rowAt p) (fun e => ∃ x, e = [.v (townD n rs), .v (rowD p), .o 0 (.lst (g.map D.int)), .w false 0 (.lst (natsD (treeF rs))), .v (.int (k : Nat)), .o 0 (.lst ((esAt rs ((treeF rs).filter fun o => decide (o ≠ k))).map roadD)), .no, x]) ⟨_, rfl⟩ (by rw [List.length_map]; exact sl_le (by omega)) ?_ ?_⟩
      · rintro d e hd ⟨x, rfl⟩
        obtain ⟨j, hj, rfl⟩ := List.mem_map.mp hd
        dsimp! []
        simp! [atI_int, hS j hj]
        exact ⟨by simp [rowAt, natOf], _, rfl⟩
      · rintro e ⟨x, rfl⟩
        rw [ints_at]
        simp! [↓O.sum.call]
        simp! [ixN_nat, hgl, hkl, List.length_map, getD_set]
        exact ⟨_, _, ⟨f_v, f_o⟩, rfl⟩
  · rintro e ⟨x, y, ⟨hx, hy⟩, rfl⟩
    simp! []
    rw [List.take_of_length_le (by simp)]  -- so
    exact ⟨rfl, q⟩
/-- its ints -/
def toI : D → Int
  | .int i => i
  | _ => 0
def allNum (xs : List D) : Bool := xs.all isNum
theorem back_ints {xs : List D} (h : allNum xs = true) : xs = (xs.map toI).map D.int := by
  rw [List.map_map]
  refine ((List.map_congr_left fun x hx => ?_).trans (List.map_id _)).symm
  have := List.all_eq_true.mp h x hx
  cases x with
  | int i => rfl
  | _ => cases this
def forErr (n : Nat) (rs : List (Nat × Nat)) (p : List Int) : D → D
  | .tup xs => if xs.length = rs.length then (if allNum xs = true then (if (py (rowD (endsF n rs (xs.map toI)))).eqv (py (rowD p)) = true then .non else .str "ends") else .str "form") else .str "form"
  | _ => .str "form"
def forErrC : Ctr where
  run := fun ss Q _ => ∃ (n : Nat) (rs : List (Nat × Nat)) (p : List Int) (d : D), ss = [.v (townD n rs), .v (rowD p), .v d] ∧ (∀ r ∈ rs, r.1 < r.2 ∧ r.2 < n) ∧ n ≤ 1000 ∧ rs.length ≤ 1000 ∧ Any d ∧ Q (.v (forErr n rs p d)) [.no, .no, .no]
  mono := fun {ss Q Q' E E'} ⟨n, rs, p, d, h1, h2, h3, h4, h5, h6⟩ hq _ => ⟨n, rs, p, d, h1, h2, h3, h4, h5, hq _ _ h6⟩
theorem row_ok (a b : List Int) : eqOk (rowD a) (rowD b) = true := by
  have h : ∀ a : List Int, DL.plain (rowD a) = true ∧ SeqAt.shaped (py (rowD a)) = true := fun a => by
    refine ⟨plain_ints a, ?_⟩
    show SeqAt.shaped (.tuple (pys (a.map D.int))) = true
    rw [pys_ints]
    obtain ⟨h1, h2⟩ := lay_ints a
    simp [SeqAt.shaped, PyData.canLay0, PyData.depth, h1, h2]
  unfold eqOk
  rw [(h a).1, (h a).2, (h b).1, (h b).2]
  rfl
def numD (d : D) : D := .bl (isNum d)
theorem nums_all (xs : List D) : xs.map numD = (xs.map isNum).map D.bl := by rw [List.map_map]; rfl
theorem all_nums (xs : List D) : (xs.map isNum).all id = allNum xs := by simp [allNum, List.all_map]
theorem wp_flow_for_error {T : Txt} (h102 : At T 102 endsC [false, false]) (h120 : At T 120 numC [false]) (h122 : At T 122 isRowC [false, false]) : forErrC.Le (ctrOf T 3 1 bd_flow_for_error) := by
  rintro ss Q E ⟨n, rs, p, d, rfl, hr, hn, hl, hd, q⟩
  refine ⟨rfl, ?_⟩
  dsimp only [bd_flow_for_error]
  show wpSs _ _ [_, _, _, _] _
  refine seq_at 1 (fun e => ∃ f : List Int, d = rowD f ∧ f.length = rs.length ∧ e = [.v (townD n rs), .v (rowD p), .v d, .no]) ?_ ?_
  · simp! [↓h122.call]
    refine ⟨n, rs, d, rfl, plain_ns hd.pl, ?_⟩
    cases hr' : rowLike rs.length d with
    | false =>
      simp! []
      have : forErr n rs p d = .str "form" := by
        cases d <;> first | rfl | (simp only [rowLike, decide_eq_false_iff_not] at hr'; simp [forErr, hr'])
      rw [← this]
      exact ⟨rfl, q⟩
    | true =>
      cases d with
      | tup xs =>
        have hx : xs.length = rs.length := by simpa [rowLike] using hr'
        have hp := plain_items hd.pl
        simp! []
        refine ⟨rfl, comp_map' numD (fun e => ∃ x, e = [.v (townD n rs), .v (rowD p), .v (.tup xs), x]) ⟨_, rfl⟩ (sl_le (by omega)) ?_ ?_⟩
        · rintro z e hz ⟨x, rfl⟩
          dsimp! []
          simp! [↓h120.call]
          refine ⟨z, rfl, plain_ns (hp z hz), ?_⟩
          simp! []
          exact ⟨rfl, _, rfl⟩
        · rintro e ⟨x, rfl⟩
          rw [nums_all]
          simp! []
          refine ⟨_, rfl, ?_⟩
          simp! [all_nums]
          cases ha : allNum xs with
          | true =>
            simp! []
            have e1 := back_ints ha
            exact ⟨xs.map toI, congrArg D.tup e1, by simp [hx]⟩
          | false =>
            simp! []
            have : forErr n rs p (.tup xs) = .str "form" := by simp [forErr, hx, ha]
            rw [← this]
            exact ⟨rfl, q⟩
      | _ => cases hr'
  · rintro e ⟨f, rfl, hf, rfl⟩
    have e2 : forErr n rs p (rowD f) = if (py (rowD (endsF n rs f))).eqv (py (rowD p)) = true then .non else .str "ends" := by
      have h1 : allNum (f.map D.int) = true := by simp [allNum, isNum, List.all_map]
      have h2 : (f.map D.int).map toI = f := by rw [List.map_map]; exact (List.map_congr_left fun x _ => rfl).trans (List.map_id _)
      show forErr n rs p (.tup (f.map D.int)) = _
      simp only [forErr]
      rw [if_pos (by simp [hf]), if_pos h1, h2]
    rw [e2] at q
    simp! [↓h102.call]
    refine ⟨n, rs, f, rfl, hr, hn, ?_⟩
    simp! [row_ok]
    split
    · rename_i h
      rw [if_pos h] at q
      exact ⟨rfl, q⟩
    · rename_i h
      rw [if_neg h] at q
      exact ⟨rfl, q⟩
end K79
end
section
open PySem PySem.Spec L2 DL TW G
set_option Elab.async false
set_option linter.all false
set_option maxRecDepth 100000
set_option maxHeartbeats 3900000
namespace K79
local macro_rules | `(tactic| simp! [$ls,*]) => `(tactic| (simp (config := {dsimp := false, failIfUnchanged := false}) only [List.take_succ_cons, List.take_zero, List.drop_succ_cons, List.drop_zero, restore, unlocks, unlockS, locks, lockS, hold_ap, mkR, DL.fresh, outsOk, borrows, backs, backS, lend1, hasN, lentOf, namedOf, allClean, Sl.clean, cleanN, cleanN.cleans, exClean, imm, imms, List.foldl_nil, List.foldl_cons, List.getElem?_cons_succ, List.getElem?_cons_zero, List.set_cons_succ, List.set_cons_zero, reduceIte, ite_true, if_true, if_false, Bool.false_eq_true, reduceCtorEq, Bool.true_and, Bool.and_true, Bool.or_true, Bool.true_or, Bool.or_false, Bool.false_or, Bool.not_false, Bool.not_true, Nat.reduceBEq, beq_self_eq_true, true_and, and_true]; simp (config := {dsimp := false, failIfUnchanged := false}) only [↓w_lit, ↓w_glb, ↓w_var, ↓w_mv, ↓w_pk, ↓w_fld, ↓w_prim, ↓w_chn, ↓w_bop, ↓w_ifx, ↓w_call, ↓w_nil, ↓w_cons, ↓w_b1, ↓w_b2, ↓w_t0, ↓w_t1, ↓k_asg, ↓k_par, ↓k_setx, ↓k_app, ↓k_ext, ↓k_exp, ↓k_ret, ↓k_ret0, ↓k_pas, ↓k_iff, ↓k_rse0, ↓k_rse1, ↓k_tri, ↓k_s0, ↓k_s1, ↓k_for, ↓k_h0, ↓k_h1, ↓h_comp, ↓w_pop, ↓r_srcE, ↓r_srcZ, ↓r_in, ↓r_nin, ↓r_sl11, keyI_hold, keyS_hold, ↓r_op1, ↓r_op2, ↓sum_l, ↓sum_t, ↓r_mulT, ↓r_dK1, ↓r_lrng, ↓r_nne, ↓r_nhas, ↓r_napp, ↓r_isi, ↓r_set2, ↓r_okPk, ↓r_okL, ↓r_primQ, ↓r_prim0, ↓r_nestQ, ↓r_tstQ, ↓r_truQ, ↓r_asgN, ↓r_asgT, ↓r_srcQ, ↓r_srcS, ↓r_srcR, ↓r_srcR2, ↓r_setxQ, ↓r_modQ, ↓r_appQ, ↓r_extQ, ↓r_retQ, ↓r_callL, argsS, argS, lend1, hasN, lentOf, namedOf, Nat.reduceBEq, beq_self_eq_true, Bool.not_false, Bool.not_true, ↓r_pAdd, ↓r_pMul, ↓r_p2I, ↓r_sub, ↓r_fdiv, ↓r_mod, ↓r_pow, ↓r_le, ↓r_gt, ↓r_ge, ↓r_neg, ↓r_nt, ↓r_eq, ↓r_ne, ↓r_lt, ↓r_idx, ↓r_pSl, ↓r_sl00, ↓r_sl10, ↓r_sl01, ↓r_rev, ↓r_len, ↓r_abs, ↓r_min2, ↓r_max2, ↓r_sum, ↓r_all, ↓r_any, ↓r_pInts, ↓r_pBls, ↓r_int, ↓r_bool, ↓r_str, ↓r_repr, ↓r_tuple, ↓r_list, ↓r_tupD, ↓r_lstD, ↓r_dK0, ↓r_dT0, some_hold, ints_hold, dat_cons, dat_nil, q_ii, q_ss, q_bb, v_ii, v_bb, v_ss, ln0, ln1, ln2, ln3, ln4, ln5, ln6, ln7, ln8, nestK, rzs, Sl.rz, okr, isDisp, Rz.flat, Rz.dat, Rz.isFr, setS, setAll, f_no, f_v, f_o, Sl.val, mkR, DL.fresh, seqOf, locks, unlocks, lockS, unlockS, imm, imms, immR, List.foldl_nil, List.foldl_cons, List.getElem?_cons_succ, List.getElem?_cons_zero, List.set_cons_succ, List.set_cons_zero, true_and, and_true, if_true, ite_true, if_false, List.all_cons, List.all_nil, Bool.and_true, Bool.true_and, Bool.or_true, Bool.true_or, Bool.or_false, Bool.false_or, reduceCtorEq, reduceIte, Bool.false_eq_true, $ls,*]))
local macro_rules | `(tactic| dsimp! [$ls,*]) => `(tactic| refine ⟨_, (by simp (config := {dsimp := false}) only [clr_eq, bindT, bindTs, setS, f_no, f_v, f_o, List.foldl_nil, List.foldl_cons, List.getElem?_cons_succ, List.getElem?_cons_zero, List.set_cons_succ, List.set_cons_zero, if_true, ite_true, reduceIte, $ls,*] <;> first | done | exact rfl), ?_⟩)
theorem wp_law_cut {T : Txt} : cutC.Le (ctrOf T 2 2 bd_law_cut) := wp_cut_flow
theorem wp_law_ends {T : Txt} (O : OpsB T) : endsC.Le (ctrOf T 2 4 bd_law_ends) := by
  rintro ss Q E ⟨n, rs, f, rfl, hr, hn, q⟩
  refine ⟨rfl, ?_⟩
  dsimp only [bd_law_ends]
  show wpSs _ _ [_, _, _, _, _, _] _
  simp! [atI0, atI1]
  refine ⟨by omega, by omega, sl_le (by simp; omega), ?_⟩
  rw [zip_rows]
  refine for_inv (fun k e => ∃ x y z, (x.free = true ∧ y.free = true ∧ z.free = true) ∧ e = [.v (townD n rs), .v (rowD f), .o 0 (.lst ((endsL ((rs.zip f).take k) n).map D.int)), x, y, z]) ⟨_, _, _, ⟨f_no, f_no, f_no⟩, ?_⟩ ?_ ?_
  · have e1 : endsL ((rs.zip f).take 0) n = List.replicate n 0 := by
      refine List.ext_getElem (by simp [endsL]) fun i h1 h2 => ?_
      simp [endsL, bdZ]
    rw [e1, rep_flat, rep_ints]
    simp
  · rintro i d e hd ⟨x, y, z, ⟨hx, hy, hz⟩, rfl⟩
    rw [List.getElem?_map] at hd
    obtain ⟨⟨r, w⟩, hr1, rfl⟩ := Option.map_eq_some_iff.mp hd
    have hm := List.of_mem_zip (List.mem_of_getElem? hr1)
    have hrn := hr r hm.1
    have hr1n : r.1 < n := by omega
    have e2 : (rs.zip f).take (i + 1) = (rs.zip f).take i ++ [(r, w)] := by rw [List.take_add_one, hr1]; rfl
    have e3 : ((endsL ((rs.zip f).take i) n).set r.1 ((endsL ((rs.zip f).take i) n).getD r.1 0 - w)).getD r.2 0 = (endsL ((rs.zip f).take i) n).getD r.2 0 := getD_set_ne (by omega)
    rw [e2, endsL_add (r := r) (x := w) hr1n hrn.2 (by omega), e3]
    have hl : (endsL ((rs.zip f).take i) n).length = n := endsL_len
    generalize endsL ((rs.zip f).take i) n = g at hl ⊢
    dsimp! [hx, hy, hz]
    simp! [atI_int, hr1n, hrn.2, hl, ixN_nat, getD_set, List.length_map, List.length_set, ↓O.set2.call]
    simp! [atI_int, hr1n, hrn.2, hl, ixN_nat, getD_set, List.length_map, List.length_set, some_hold]
    exact ⟨_, _, _, ⟨f_v, f_v, f_v⟩, rfl⟩
  · rintro e ⟨x, y, z, ⟨hx, hy, hz⟩, rfl⟩
    simp! []
    rw [List.take_of_length_le (by simp)]  -- so
    exact ⟨rfl, q⟩
theorem wp_law_for_due {T : Txt} (O : OpsB T) (h126 : At T 126 endsC [false, false]) : forErrC.Le (ctrOf T 3 1 bd_law_for_due) := by
  rintro ss Q E ⟨n, rs, p, d, rfl, hr, hn, hl, hd, q⟩
  refine ⟨rfl, ?_⟩
  dsimp only [bd_law_for_due]
  show wpSs _ _ [_, _, _, _] _
  refine seq_at 1 (fun e => ∃ xs, d = .tup xs ∧ xs.length = rs.length ∧ e = [.v (townD n rs), .v (rowD p), .v d, .no]) ?_ ?_
  · cases d with
    | tup xs =>
      simp! [↓O.isT.call, notScr, isTy, atI1, List.length_map]
      simp! [atI1, List.length_map]
      by_cases hx : xs.length = rs.length
      · simp! [decide_eq_true (show ((xs.length : Nat) : Int) = (rs.length : Nat) by omega)]
        exact ⟨xs, rfl, hx⟩
      · simp! [decide_eq_false (show ¬ ((xs.length : Nat) : Int) = (rs.length : Nat) by omega)]
        have : forErr n rs p (.tup xs) = .str "form" := by simp [forErr, hx]
        rw [← this]
        exact ⟨rfl, q⟩
    | scr _ => cases hd.pl
    | _ =>
      simp! [↓O.isT.call, notScr, isTy, atI1]
      simp! []
      exact ⟨rfl, q⟩
  · rintro e ⟨xs, rfl, hx, rfl⟩
    have hp := plain_items hd.pl
    refine seq_at 1 (fun e => ∃ f : List Int, xs = f.map D.int ∧ f.length = rs.length ∧ e = [.v (townD n rs), .v (rowD p), .v (.tup xs), .no]) ?_ ?_
    · simp! []
      refine ⟨rfl, comp_map' numD (fun e => ∃ x, e = [.v (townD n rs), .v (rowD p), .v (.tup xs), x]) ⟨_, rfl⟩ (sl_le (by omega)) ?_ ?_⟩
      · rintro z e hz ⟨x, rfl⟩
        have hnz := plain_ns (hp z hz)
        have e0 := isNum_eq z
        dsimp! []
        simp! [↓O.isI.call, ↓O.isB.call, hnz]
        cases h1 : isTy z .int with
        | false =>
          rw [h1] at e0
          simp! [↓O.isB.call, hnz]
          exact ⟨by rw [numD, ← e0]; rfl, _, rfl⟩
        | true =>
          rw [h1] at e0
          simp! [↓O.isB.call, hnz]
          simp! []
          exact ⟨by rw [numD, ← e0]; rfl, _, rfl⟩
      · rintro e ⟨x, rfl⟩
        rw [nums_all]
        simp! []
        refine ⟨_, rfl, ?_⟩
        simp! [all_nums]
        cases ha : allNum xs with
        | true =>
          simp! []
          have e1 := back_ints ha
          exact ⟨xs.map toI, e1, by simp [hx]⟩
        | false =>
          simp! []
          have : forErr n rs p (.tup xs) = .str "form" := by simp [forErr, hx, ha]
          rw [← this]
          exact ⟨rfl, q⟩
    · rintro e ⟨f, rfl, hf, rfl⟩
      have e2 : forErr n rs p (rowD f) = if (py (rowD (endsF n rs f))).eqv (py (rowD p)) = true then .non else .str "ends" := by
        have h1 : allNum (f.map D.int) = true := by simp [allNum, isNum, List.all_map]
        have h2 : (f.map D.int).map toI = f := by rw [List.map_map]; exact (List.map_congr_left fun x _ => rfl).trans (List.map_id _)
        show forErr n rs p (.tup (f.map D.int)) = _
        simp only [forErr]
        rw [if_pos (by simp [hf]), if_pos h1, h2]
      rw [e2] at q
      simp! [↓h126.call]
      refine ⟨n, rs, f, rfl, hr, hn, ?_⟩
      simp! [row_ok]
      split
      · rename_i h
        rw [if_pos h] at q
        exact ⟨rfl, q⟩
      · rename_i h
        rw [if_neg h] at q
        exact ⟨rfl, q⟩
def toldC : Ctr where
  run := fun ss Q _ => ∃ (n : Nat) (rs : List (Nat × Nat)) (p : List Int) (b : Bool), ss = [.v (townD n rs), .v (rowD p), .v (.bl b)] ∧ (∀ r ∈ rs, r.1 < n ∧ r.2 < n) ∧ n ≤ 1000 ∧ rs.length ≤ 1000 ∧ p.length = n ∧ (p.sum = 0 → Q (.v (rowD (flowF n rs p))) [.no, .no, .no]) ∧ (p.sum ≠ 0 → Q (.v (.str "unfit")) [.no, .no, .no])
  mono := fun {ss Q Q' E E'} ⟨n, rs, p, b, h1, h2, h3, h4, h5, h6, h7⟩ hq _ => ⟨n, rs, p, b, h1, h2, h3, h4, h5, fun h => hq _ _ (h6 h), fun h => hq _ _ (h7 h)⟩
theorem wp_law_told {T : Txt} (h105 : At T 105 flowC [false, false]) (hs : T.sub 1 1 = true) : toldC.Le (ctrOf T 3 0 bd_law_told) := by
  rintro ss Q E ⟨n, rs, p, b, rfl, hr, hn, hl, hp, q1, q2⟩
  refine ⟨rfl, ?_⟩
  dsimp only [bd_law_told]
  show wpSs _ _ [_, _, _] _
  cases b
  all_goals
    simp! [↓h105.call]
    refine ⟨n, rs, p, rfl, hr, hn, hl, hp, fun h => ?_, fun h => ?_⟩
    · simp! []
      exact ⟨rfl, q1 h⟩
    · simp! [hs]
      exact ⟨rfl, q2 h⟩
def lflowC : Ctr where
  run := fun ss Q _ => ∃ (d : D) (size : Nat), ss = [.p 1 d, .v (.int (size : Nat))] ∧ Dk d ∧ size ≤ 1000 ∧ ∀ (f : List Int) (d' : D), f.length = size → (∀ x ∈ f, -1000 ≤ x ∧ x ≤ 1000) → Dk d' → Q (.v (rowD f)) [.p 1 d', .no]
  mono := fun {ss Q Q' E E'} ⟨d, size, h1, h2, h3, h4⟩ hq _ => ⟨d, size, h1, h2, h3, fun f d' a b c => hq _ _ (h4 f d' a b c)⟩
theorem wp_law_flow {T : Txt} (h111 : At T 111 dC [true, false]) (h112 : At T 112 pickC [true, false]) : lflowC.Le (ctrOf T 2 2 bd_law_flow) := by
  rintro ss Q E ⟨d, size, rfl, hd, hs, q⟩
  refine ⟨rfl, ?_⟩
  dsimp only [bd_law_flow]
  show wpSs _ _ [_, _, _, _] _
  refine seq_at 1 (fun e => ∃ (d : D) (top : Nat), Dk d ∧ top ≤ 1000 ∧ e = [.p 1 d, .v (.int (size : Nat)), .v (.int (top : Nat)), .no]) ?_ ?_
  · simp! [↓h112.call]
    refine ⟨d, _, rfl, hd, by simp, by simp, fun x d2 hx hd2 => ?_⟩
    obtain ⟨top, rfl, hm⟩ : ∃ top : Nat, x = .int (top : Nat) ∧ top ≤ 1000 := by
      simp only [List.mem_cons, List.not_mem_nil, or_false] at hx  -- so
      rcases hx with rfl | rfl | rfl | rfl
      · exact ⟨1, rfl, by decide⟩
      · exact ⟨3, rfl, by decide⟩
      · exact ⟨9, rfl, by decide⟩
      · exact ⟨1000, rfl, by decide⟩
    simp! []
    exact ⟨d2, top, hd2, hm, rfl⟩
  · rintro e ⟨d, top, hd, ht, rfl⟩
    simp! []
    refine ⟨rfl, by omega, by omega, comp_inv (fun k a e => ∃ (d : D) (f : List Int) (x : Sl), a = f.map D.int ∧ f.length = k ∧ k ≤ size ∧ (∀ x ∈ f, -1000 ≤ x ∧ x ≤ 1000) ∧ Dk d ∧ e = [.p 1 d, .v (.int (size : Nat)), .v (.int (top : Nat)), x]) ⟨d, [], .no, rfl, rfl, by omega, by simp, hd, rfl⟩ ?_ ?_⟩
    · rintro i d' a e hd' ⟨d, f, x, rfl, hfl, hil, hf, hd, rfl⟩
      obtain ⟨rfl, hi'⟩ := rngD_get hd'
      dsimp! []
      simp! [↓h111.call]
      refine ⟨.inl (.inl ⟨by decide, by decide⟩), d, 2 * top + 1, rfl, hd, by omega, by omega, fun y d2 hy hd2 => ?_⟩
      simp! []
      refine ⟨_, rfl, sl_lt (by rw [List.length_map]; omega), d2, f ++ [(y : Int) - top], _, by simp, by simp [hfl], by omega, fun z hz => ?_, hd2, rfl⟩
      rcases List.mem_append.mp hz with h | h
      · exact hf z h
      · rw [List.mem_singleton] at h; omega
    · rintro a e ⟨d, f, x, rfl, hfl, hil, hf, hd, rfl⟩
      rw [rngD_len] at hfl
      simp! []
      exact ⟨rfl, q f d (by omega) hf hd⟩
end K79
end
section
open PySem PySem.Spec L2 DL TW G
set_option Elab.async false
set_option linter.all false
set_option maxRecDepth 100000
set_option maxHeartbeats 3900000
namespace K79
local macro_rules | `(tactic| simp! [$ls,*]) => `(tactic| (simp (config := {dsimp := false, failIfUnchanged := false}) only [List.take_succ_cons, List.take_zero, List.drop_succ_cons, List.drop_zero, restore, unlocks, unlockS, locks, lockS, hold_ap, mkR, DL.fresh, outsOk, borrows, backs, backS, lend1, hasN, lentOf, namedOf, allClean, Sl.clean, cleanN, cleanN.cleans, exClean, imm, imms, List.foldl_nil, List.foldl_cons, List.getElem?_cons_succ, List.getElem?_cons_zero, List.set_cons_succ, List.set_cons_zero, reduceIte, ite_true, if_true, if_false, Bool.false_eq_true, reduceCtorEq, Bool.true_and, Bool.and_true, Bool.or_true, Bool.true_or, Bool.or_false, Bool.false_or, Bool.not_false, Bool.not_true, Nat.reduceBEq, beq_self_eq_true, true_and, and_true]; simp (config := {dsimp := false, failIfUnchanged := false}) only [↓w_lit, ↓w_glb, ↓w_var, ↓w_mv, ↓w_pk, ↓w_fld, ↓w_prim, ↓w_chn, ↓w_bop, ↓w_ifx, ↓w_call, ↓w_nil, ↓w_cons, ↓w_b1, ↓w_b2, ↓w_t0, ↓w_t1, ↓k_asg, ↓k_par, ↓k_setx, ↓k_app, ↓k_ext, ↓k_exp, ↓k_ret, ↓k_ret0, ↓k_pas, ↓k_iff, ↓k_rse0, ↓k_rse1, ↓k_tri, ↓k_s0, ↓k_s1, ↓k_for, ↓k_h0, ↓k_h1, ↓h_comp, ↓w_pop, ↓r_srcE, ↓r_srcZ, ↓r_in, ↓r_nin, ↓r_sl11, keyI_hold, keyS_hold, ↓r_op1, ↓r_op2, ↓sum_l, ↓sum_t, ↓r_mulT, ↓r_dK1, ↓r_lrng, ↓r_nne, ↓r_nhas, ↓r_napp, ↓r_isi, ↓r_set2, ↓r_okPk, ↓r_okL, ↓r_primQ, ↓r_prim0, ↓r_nestQ, ↓r_tstQ, ↓r_truQ, ↓r_asgN, ↓r_asgT, ↓r_srcQ, ↓r_srcS, ↓r_srcR, ↓r_srcR2, ↓r_setxQ, ↓r_modQ, ↓r_appQ, ↓r_extQ, ↓r_retQ, ↓r_callL, argsS, argS, lend1, hasN, lentOf, namedOf, Nat.reduceBEq, beq_self_eq_true, Bool.not_false, Bool.not_true, ↓r_pAdd, ↓r_pMul, ↓r_p2I, ↓r_sub, ↓r_fdiv, ↓r_mod, ↓r_pow, ↓r_le, ↓r_gt, ↓r_ge, ↓r_neg, ↓r_nt, ↓r_eq, ↓r_ne, ↓r_lt, ↓r_idx, ↓r_pSl, ↓r_sl00, ↓r_sl10, ↓r_sl01, ↓r_rev, ↓r_len, ↓r_abs, ↓r_min2, ↓r_max2, ↓r_sum, ↓r_all, ↓r_any, ↓r_pInts, ↓r_pBls, ↓r_int, ↓r_bool, ↓r_str, ↓r_repr, ↓r_tuple, ↓r_list, ↓r_tupD, ↓r_lstD, ↓r_dK0, ↓r_dT0, some_hold, ints_hold, dat_cons, dat_nil, q_ii, q_ss, q_bb, v_ii, v_bb, v_ss, ln0, ln1, ln2, ln3, ln4, ln5, ln6, ln7, ln8, nestK, rzs, Sl.rz, okr, isDisp, Rz.flat, Rz.dat, Rz.isFr, setS, setAll, f_no, f_v, f_o, Sl.val, mkR, DL.fresh, seqOf, locks, unlocks, lockS, unlockS, imm, imms, immR, List.foldl_nil, List.foldl_cons, List.getElem?_cons_succ, List.getElem?_cons_zero, List.set_cons_succ, List.set_cons_zero, true_and, and_true, if_true, ite_true, if_false, List.all_cons, List.all_nil, Bool.and_true, Bool.true_and, Bool.or_true, Bool.true_or, Bool.or_false, Bool.false_or, reduceCtorEq, reduceIte, Bool.false_eq_true, $ls,*]))
local macro_rules | `(tactic| dsimp! [$ls,*]) => `(tactic| refine ⟨_, (by simp (config := {dsimp := false}) only [clr_eq, bindT, bindTs, setS, f_no, f_v, f_o, List.foldl_nil, List.foldl_cons, List.getElem?_cons_succ, List.getElem?_cons_zero, List.set_cons_succ, List.set_cons_zero, if_true, ite_true, reduceIte, $ls,*] <;> first | done | exact rfl), ?_⟩)
/-- what _law_any may give at a depth -/
def leafs : List D := [.non, .bl true, .int 0, .int 1, .int 2, .int 3, .int (-1), .int (10 ^ 18), .str "", .str "on", .str "in"]
inductive Av : Nat → D → Prop
  | leaf {k : Nat} {d : D} (h : d ∈ leafs) : Av k d
  | tup {k : Nat} {xs : List D} (h : ∀ x ∈ xs, Av k x) (hl : xs.length ≤ 3) : Av (k + 1) (.tup xs)
  | lst {k : Nat} {xs : List D} (h : ∀ x ∈ xs, Av k x) (hl : xs.length ≤ 3) : Av (k + 1) (.lst xs)
theorem leaf_shw : ∀ d ∈ leafs, Shw 60 100 0 d := by
  intro d hd
  simp only [leafs, List.mem_cons, List.not_mem_nil, or_false] at hd
  rcases hd with rfl | rfl | rfl | rfl | rfl | rfl | rfl | rfl | rfl | rfl | rfl
  all_goals exact ⟨rfl, by decide +kernel, by decide +kernel, by decide +kernel, by decide +kernel⟩
def wAv : Nat → Nat
  | 0 => 100
  | k + 1 => 3 * (wAv k + 1) + 100
theorem av_shw : ∀ {k : Nat} {d : D}, Av k d → Shw 60 (wAv k) k d
  | 0, d, h => by
    cases h with
    | leaf h => exact leaf_shw d h
  | k + 1, d, h => by
    cases h with
    | leaf h => exact (leaf_shw d h).up (by simp [wAv]) (Nat.zero_le _)
    | tup h hl => exact (Shw.tup (ShwAll.of fun x hx => av_shw (h x hx))).up (by simp only [wAv]; exact Nat.le_trans (Nat.mul_le_mul_right _ hl) (Nat.le_add_right _ _)) (Nat.le_refl _)
    | lst h hl => exact (Shw.lst (ShwAll.of fun x hx => av_shw (h x hx))).up (by simp only [wAv]; exact Nat.le_trans (Nat.mul_le_mul_right _ hl) (Nat.le_add_right _ _)) (Nat.le_refl _)
theorem av_any {k : Nat} {d : D} (h : Av k d) : Any d := by
  refine ⟨(av_shw h).p, fun xs e => ?_⟩
  cases h with
  | leaf h => rcases e with rfl | rfl <;> simp [leafs] at h
  | tup h hl => rcases e with e | e <;> cases e; omega
  | lst h hl => rcases e with e | e <;> cases e; omega
def anyC (m : Nat) : Ctr where
  run := fun ss Q _ => ∃ (d : D) (deep : Nat), ss = [.p 1 d, .v (.int (deep : Nat))] ∧ Dk d ∧ deep < m ∧ (∀ (v d' : D), Av deep v → Dk d' → Q (.v v) [.p 1 d', .no]) ∧ ∀ (xs : List D) (d' : D), Av deep (.lst xs) → Dk d' → Q (.o 0 (.lst xs)) [.p 1 d', .no]
  mono := fun {ss Q Q' E E'} ⟨d, deep, h1, h2, h3, h4, h5⟩ hq _ => ⟨d, deep, h1, h2, h3, fun v d' a b => hq _ _ (h4 v d' a b), fun v d' a b => hq _ _ (h5 v d' a b)⟩
theorem wp_law_any {T : Txt} {m : Nat} (hm : m < 1000) (h111 : At T 111 dC [true, false]) (h112 : At T 112 pickC [true, false]) (h125 : At T 125 (anyC m) [true, false]) : (anyC (m + 1)).Le (ctrOf T 2 3 bd_law_any) := by
  rintro ss Q E ⟨d, deep, rfl, hd, hdm, q1, q2⟩
  refine ⟨rfl, ?_⟩
  dsimp only [bd_law_any]
  show wpSs _ _ [_, _, _, _, _] _
  refine seq_at 1 (fun e => ∃ (d : D) (sort : Nat), Dk d ∧ (0 < deep ∨ sort < 6) ∧ e = [.p 1 d, .v (.int (deep : Nat)), .v (.int (sort : Nat)), .no, .no]) ?_ ?_
  · by_cases h0 : 0 < deep
    · simp! [decide_eq_true (show (0 : Int) < (deep : Nat) by omega), ↓h111.call]
      refine ⟨d, 9, rfl, hd, by decide, by decide, fun s d2 hs hd2 => ?_⟩
      simp! []
      exact ⟨d2, s, hd2, .inl h0, rfl⟩
    · simp! [decide_eq_false (show ¬ (0 : Int) < (deep : Nat) by omega), ↓h111.call]
      refine ⟨d, 6, rfl, hd, by decide, by decide, fun s d2 hs hd2 => ?_⟩
      simp! []
      exact ⟨d2, s, hd2, .inr hs, rfl⟩
  · rintro e ⟨d, sort, hd, hds, rfl⟩
    refine seq_at 1 (fun e => 6 ≤ sort ∧ e = [.p 1 d, .v (.int (deep : Nat)), .v (.int (sort : Nat)), .no, .no]) ?_ ?_
    · by_cases h6 : sort < 6
      · simp! [decide_eq_true (show (sort : Int) < 6 by omega), ↓h112.call]
        refine ⟨⟨by decide, by decide, by decide⟩, d, _, rfl, hd, by simp, by simp, fun x d2 hx hd2 => ?_⟩
        have hx' : x ∈ leafs := by
          simp only [List.mem_cons, List.not_mem_nil, or_false] at hx  -- so
          rcases hx with rfl | rfl | rfl | rfl | rfl | rfl <;> simp [leafs]
        simp! []
        have hl : sort < [D.non, .bl true, x, .str "", .str "on", .str "in"].length := by show sort < 6; exact h6
        refine ⟨_, atI_nat hl, ?_⟩
        have hm : ([D.non, .bl true, x, .str "", .str "on", .str "in"] : List D)[sort] ∈ leafs := by
          have := List.getElem_mem hl
          generalize ([D.non, .bl true, x, .str "", .str "on", .str "in"] : List D)[sort] = z at this ⊢
          simp only [List.mem_cons, List.not_mem_nil, or_false] at this
          rcases this with rfl | rfl | rfl | rfl | rfl | rfl <;> first | exact hx' | simp [leafs]
        simp! []
        exact ⟨rfl, q1 _ _ (.leaf hm) hd2⟩
      · simp! [decide_eq_false (show ¬ (sort : Int) < 6 by omega), ↓h112.call]
        omega
    · rintro e ⟨h6, rfl⟩
      have h0 : 0 < deep := by omega
      obtain ⟨dp, rfl⟩ : ∃ dp, deep = dp + 1 := ⟨deep - 1, by omega⟩
      refine seq_at 1 (fun e => ∃ (d : D) (xs : List D), Dk d ∧ (∀ x ∈ xs, Av dp x) ∧ xs.length ≤ 3 ∧ e = [.p 1 d, .v (.int ((dp + 1 : Nat) : Int)), .v (.int (sort : Nat)), .o 0 (.lst xs), .no]) ?_ ?_
      · simp! [↓h111.call]
        refine ⟨d, 4, rfl, hd, by decide, by decide, fun t d2 ht hd2 => ?_⟩
        simp! []
        refine ⟨rfl, by omega, by omega, comp_inv (fun k a e => ∃ (d : D) (x : Sl), a.length = k ∧ k ≤ 3 ∧ (∀ z ∈ a, Av dp z) ∧ Dk d ∧ e = [.p 1 d, .v (.int ((dp + 1 : Nat) : Int)), .v (.int (sort : Nat)), .no, x]) ⟨d2, .no, rfl, by omega, by simp, hd2, rfl⟩ ?_ ?_⟩
        · rintro i d' a e hd' ⟨d, x, hal, hil, ha, hd, rfl⟩
          obtain ⟨rfl, hi'⟩ := rngD_get hd'
          dsimp! []
          simp! [↓h125.call]
          have fin : ∀ (v d3 : D), Av dp v → Dk d3 → ∃ (d : D) (x : Sl), (a ++ [v]).length = i + 1 ∧ i + 1 ≤ 3 ∧ (∀ z ∈ a ++ [v], Av dp z) ∧ Dk d ∧ [Sl.p 1 d3, .v (.int ((dp + 1 : Nat) : Int)), .v (.int (sort : Nat)), .no, .v (.int (0 + (i : Nat)))] = [.p 1 d, .v (.int ((dp + 1 : Nat) : Int)), .v (.int (sort : Nat)), .no, x] := fun v d3 hv hd3 =>
            ⟨d3, _, by simp [hal], by omega, fun z hz => by
              rcases List.mem_append.mp hz with h | h
              · exact ha z h
              · rw [List.mem_singleton] at h; rw [h]; exact hv, hd3, rfl⟩
          refine ⟨d, dp, by rw [show ((dp + 1 : Nat) : Int) - 1 = (dp : Int) by omega], hd, by omega, fun v d3 hv hd3 => ?_, fun xs d3 hv hd3 => ?_⟩
          · simp! []
            exact ⟨_, rfl, sl_lt (by omega), fin v d3 hv hd3⟩
          · simp! []
            exact ⟨_, rfl, sl_lt (by omega), fin _ d3 hv hd3⟩
        · rintro a e ⟨d, x, hal, hil, ha, hd, rfl⟩
          simp! []
          exact ⟨d, a, hd, ha, by omega, rfl⟩
      · rintro e ⟨d, xs, hd, hxs, hxl, rfl⟩
        by_cases h8 : sort < 8
        · simp! [decide_eq_true (show (sort : Int) < 8 by omega)]
          exact ⟨rfl, q1 _ _ (.tup hxs hxl) hd⟩
        · simp! [decide_eq_false (show ¬ (sort : Int) < 8 by omega)]
          exact ⟨rfl, q2 _ _ (.lst hxs hxl) hd⟩
end K79
end
section
open PySem PySem.Spec L2 DL TW G
set_option Elab.async false
set_option linter.all false
set_option maxRecDepth 100000
set_option maxHeartbeats 3900000
namespace K79
local macro_rules | `(tactic| simp! [$ls,*]) => `(tactic| (simp (config := {dsimp := false, failIfUnchanged := false}) only [List.take_succ_cons, List.take_zero, List.drop_succ_cons, List.drop_zero, restore, unlocks, unlockS, locks, lockS, hold_ap, mkR, DL.fresh, outsOk, borrows, backs, backS, lend1, hasN, lentOf, namedOf, allClean, Sl.clean, cleanN, cleanN.cleans, exClean, imm, imms, List.foldl_nil, List.foldl_cons, List.getElem?_cons_succ, List.getElem?_cons_zero, List.set_cons_succ, List.set_cons_zero, reduceIte, ite_true, if_true, if_false, Bool.false_eq_true, reduceCtorEq, Bool.true_and, Bool.and_true, Bool.or_true, Bool.true_or, Bool.or_false, Bool.false_or, Bool.not_false, Bool.not_true, Nat.reduceBEq, beq_self_eq_true, true_and, and_true]; simp (config := {dsimp := false, failIfUnchanged := false}) only [↓w_lit, ↓w_glb, ↓w_var, ↓w_mv, ↓w_pk, ↓w_fld, ↓w_prim, ↓w_chn, ↓w_bop, ↓w_ifx, ↓w_call, ↓w_nil, ↓w_cons, ↓w_b1, ↓w_b2, ↓w_t0, ↓w_t1, ↓k_asg, ↓k_par, ↓k_setx, ↓k_app, ↓k_ext, ↓k_exp, ↓k_ret, ↓k_ret0, ↓k_pas, ↓k_iff, ↓k_rse0, ↓k_rse1, ↓k_tri, ↓k_s0, ↓k_s1, ↓k_for, ↓k_h0, ↓k_h1, ↓h_comp, ↓w_pop, ↓r_srcE, ↓r_srcZ, ↓r_in, ↓r_nin, ↓r_sl11, keyI_hold, keyS_hold, ↓r_op1, ↓r_op2, ↓sum_l, ↓sum_t, ↓r_mulT, ↓r_dK1, ↓r_lrng, ↓r_nne, ↓r_nhas, ↓r_napp, ↓r_isi, ↓r_set2, ↓r_okPk, ↓r_okL, ↓r_primQ, ↓r_prim0, ↓r_nestQ, ↓r_tstQ, ↓r_truQ, ↓r_asgN, ↓r_asgT, ↓r_srcQ, ↓r_srcS, ↓r_srcR, ↓r_srcR2, ↓r_setxQ, ↓r_modQ, ↓r_appQ, ↓r_extQ, ↓r_retQ, ↓r_callL, argsS, argS, lend1, hasN, lentOf, namedOf, Nat.reduceBEq, beq_self_eq_true, Bool.not_false, Bool.not_true, ↓r_pAdd, ↓r_pMul, ↓r_p2I, ↓r_sub, ↓r_fdiv, ↓r_mod, ↓r_pow, ↓r_le, ↓r_gt, ↓r_ge, ↓r_neg, ↓r_nt, ↓r_eq, ↓r_ne, ↓r_lt, ↓r_idx, ↓r_pSl, ↓r_sl00, ↓r_sl10, ↓r_sl01, ↓r_rev, ↓r_len, ↓r_abs, ↓r_min2, ↓r_max2, ↓r_sum, ↓r_all, ↓r_any, ↓r_pInts, ↓r_pBls, ↓r_int, ↓r_bool, ↓r_str, ↓r_repr, ↓r_tuple, ↓r_list, ↓r_tupD, ↓r_lstD, ↓r_dK0, ↓r_dT0, some_hold, ints_hold, dat_cons, dat_nil, q_ii, q_ss, q_bb, v_ii, v_bb, v_ss, ln0, ln1, ln2, ln3, ln4, ln5, ln6, ln7, ln8, nestK, rzs, Sl.rz, okr, isDisp, Rz.flat, Rz.dat, Rz.isFr, setS, setAll, f_no, f_v, f_o, Sl.val, mkR, DL.fresh, seqOf, locks, unlocks, lockS, unlockS, imm, imms, immR, List.foldl_nil, List.foldl_cons, List.getElem?_cons_succ, List.getElem?_cons_zero, List.set_cons_succ, List.set_cons_zero, true_and, and_true, if_true, ite_true, if_false, List.all_cons, List.all_nil, Bool.and_true, Bool.true_and, Bool.or_true, Bool.true_or, Bool.or_false, Bool.false_or, reduceCtorEq, reduceIte, Bool.false_eq_true, $ls,*]))
local macro_rules | `(tactic| dsimp! [$ls,*]) => `(tactic| refine ⟨_, (by simp (config := {dsimp := false}) only [clr_eq, bindT, bindTs, setS, f_no, f_v, f_o, List.foldl_nil, List.foldl_cons, List.getElem?_cons_succ, List.getElem?_cons_zero, List.set_cons_succ, List.set_cons_zero, if_true, ite_true, reduceIte, $ls,*] <;> first | done | exact rfl), ?_⟩)
theorem cut_takeN {w : List Int} {k : Nat} : cut (w.map D.int) none (some (k : Int)) = (w.take k).map D.int := by
  unfold cut
  rw [← List.map_drop, ← List.map_take, HT.sIx_nat, HT.sIx_none, List.length_map]
  congr 1
  show w.take (min k w.length - 0) = w.take k
  rw [Nat.sub_zero]
  rcases Nat.le_total k w.length with h | h
  · rw [Nat.min_eq_left h]
  · rw [Nat.min_eq_right h, List.take_of_length_le (Nat.le_refl _), List.take_of_length_le h]
theorem cut_dropN {w : List Int} {k : Nat} : cut (w.map D.int) (some (k : Int)) none = (w.drop k).map D.int := by
  unfold cut
  rw [← List.map_drop, ← List.map_take, HT.sIx_nat, HT.sIx_none, List.length_map]
  congr 1
  rcases Nat.le_total k w.length with h | h
  · rw [Nat.min_eq_left h, List.take_of_length_le (by simp)]  -- so
  · rw [Nat.min_eq_right h, List.drop_of_length_le (Nat.le_refl _), List.drop_of_length_le h, List.take_nil]
/-- an item of a bent flow -/
def Iv (d : D) : Prop := (∃ i : Int, d = .int i ∧ i.natAbs ≤ 1001) ∨ d ∈ ([.int (10 ^ 50), .str "1", .tup [.int 1]] : List D) ∨ Av 2 d
def Bv (d : D) : Prop := ∃ xs : List D, (d = .tup xs ∨ d = .lst xs) ∧ xs.length ≤ 17 ∧ ∀ x ∈ xs, Iv x
theorem iv_shw {d : D} (h : Iv d) : Shw 60 (wAv 2) 2 d := by
  rcases h with ⟨i, rfl, hi⟩ | h | h
  · exact (Shw.int (by decide) (Nat.lt_of_le_of_lt hi (by decide))).up (by decide) (by decide)
  · simp only [List.mem_cons, List.not_mem_nil, or_false] at h
    rcases h with rfl | rfl | rfl
    all_goals exact ⟨rfl, by decide +kernel, by decide +kernel, by decide +kernel, by decide +kernel⟩
  · exact av_shw h
theorem bv_shw {d : D} (h : Bv d) : Shw 60 (17 * (wAv 2 + 1)) 3 d := by
  obtain ⟨xs, e, hl, hx⟩ := h
  have := ShwAll.of fun x hx' => iv_shw (hx x hx')
  rcases e with rfl | rfl
  · exact (Shw.tup this).up (Nat.mul_le_mul_right _ hl) (Nat.le_refl _)
  · exact (Shw.lst this).up (Nat.mul_le_mul_right _ hl) (Nat.le_refl _)
theorem bv_any {d : D} (h : Bv d) : Any d := by
  refine ⟨(bv_shw h).p, fun ys e => ?_⟩
  obtain ⟨xs, e2, hl, _⟩ := h
  rcases e2 with rfl | rfl <;> rcases e with e | e <;> cases e <;> omega
theorem iv_ints {f : List Int} (hf : ∀ x ∈ f, -1000 ≤ x ∧ x ≤ 1000) : ∀ x ∈ f.map D.int, Iv x := fun x hx => by
  obtain ⟨i, hi, rfl⟩ := List.mem_map.mp hx
  have := hf i hi
  exact .inl ⟨i, rfl, by omega⟩
def bentC : Ctr where
  run := fun ss Q _ => ∃ (d : D) (f : List Int), ss = [.p 1 d, .v (rowD f)] ∧ Dk d ∧ f.length ≤ 16 ∧ (∀ x ∈ f, -1000 ≤ x ∧ x ≤ 1000) ∧ (∀ (v d' : D), Bv v → Dk d' → Q (.v v) [.p 1 d', .no]) ∧ ∀ (xs : List D) (d' : D), Bv (.lst xs) → Dk d' → Q (.o 0 (.lst xs)) [.p 1 d', .no]
  mono := fun {ss Q Q' E E'} ⟨d, f, h1, h2, h3, h4, h5, h6⟩ hq _ => ⟨d, f, h1, h2, h3, h4, fun v d' a b => hq _ _ (h5 v d' a b), fun v d' a b => hq _ _ (h6 v d' a b)⟩
theorem wp_law_bent {T : Txt} {m : Nat} (hm : 2 < m) (h111 : At T 111 dC [true, false]) (h112 : At T 112 pickC [true, false]) (h125 : At T 125 (anyC m) [true, false]) : bentC.Le (ctrOf T 2 3 bd_law_bent) := by
  rintro ss Q E ⟨d, f, rfl, hd, hl, hf, q1, q2⟩
  refine ⟨rfl, ?_⟩
  dsimp only [bd_law_bent]
  show wpSs _ _ [_, _, _, _, _] _
  have eqn : (py (rowD f)).eqv (py (.tup [])) = f.isEmpty := by
    cases f <;> simp [py, pys, PyData.eqv, PyData.eqvAll]
  have eok : eqOk (rowD f) (.tup []) = true := row_ok f []
  refine seq_at 1 (fun e => ∃ (d : D) (at_ way : Nat), Dk d ∧ (f ≠ [] → at_ < f.length) ∧ e = [.p 1 d, .v (rowD f), .v (.int (at_ : Nat)), .v (.int (way : Nat)), .no]) ?_ ?_
  · cases hfe : f.isEmpty with
    | true =>
      simp! [eok, eqn, hfe, ↓h111.call]
      refine ⟨d, 6, rfl, hd, by decide, by decide, fun w d2 hw hd2 => ?_⟩
      simp! []
      exact ⟨d2, 0, w, hd2, fun h => absurd (List.isEmpty_iff.mp hfe) h, rfl⟩
    | false =>
      have hne : f ≠ [] := fun e => by rw [e] at hfe; cases hfe
      have hpos := List.length_pos_iff.mpr hne
      simp! [eok, eqn, hfe, ↓h111.call, List.length_map]
      refine ⟨d, f.length, rfl, hd, hpos, by omega, fun a d1 ha hd1 => ?_⟩
      simp! [↓h111.call]
      refine ⟨d1, 6, rfl, hd1, by decide, by decide, fun w d2 hw hd2 => ?_⟩
      simp! []
      exact ⟨d2, a, w, hd2, fun _ => ha, rfl⟩
  · rintro e ⟨d, a, w, hd, ha, rfl⟩
    have c1 : cut (f.map D.int) none (some (a : Int)) = (f.take a).map D.int := cut_takeN
    have c2 : cut (f.map D.int) (some ((a : Int) + 1)) none = (f.drop (a + 1)).map D.int := cut_dropN (k := a + 1)
    have ht : ∀ x ∈ (f.take a).map D.int, Iv x := fun x hx => iv_ints hf x (by rw [List.map_take] at hx; exact List.mem_of_mem_take hx)
    have hdr : ∀ x ∈ (f.drop (a + 1)).map D.int, Iv x := fun x hx => iv_ints hf x (by rw [List.map_drop] at hx; exact List.mem_of_mem_drop hx)
    have tl : (f.take a).length ≤ 16 := by rw [List.length_take]; omega
    have dl : (f.take a).length + (f.drop (a + 1)).length ≤ 16 := by rw [List.length_take, List.length_drop]; omega
    refine seq_at 1 (fun e => e = [.p 1 d, .v (rowD f), .v (.int (a : Nat)), .v (.int (w : Nat)), .no]) ?_ ?_
    · by_cases h : w = 0
      · subst h
        simp! [decide_eq_true (show ((0 : Nat) : Int) = 0 by rfl), c1, c2]
        refine ⟨sl_le (by simp only [List.length_map]; omega), rfl, q1 _ _ ⟨_, .inl rfl, by simp only [List.length_append, List.length_map]; omega, fun x hx => ?_⟩ hd⟩
        rcases List.mem_append.mp hx with h | h
        · exact ht x h
        · exact hdr x h
      · simp! [decide_eq_false (show ¬ ((w : Nat) : Int) = 0 by omega)]
    · rintro e rfl
      refine seq_at 1 (fun e => e = [.p 1 d, .v (rowD f), .v (.int (a : Nat)), .v (.int (w : Nat)), .no]) ?_ ?_
      · by_cases h : w = 1
        · subst h
          simp! [decide_eq_true (show ((1 : Nat) : Int) = 1 by rfl)]
          refine ⟨sl_le (by simp; omega), rfl, q1 _ _ ⟨_, .inl rfl, by simp; omega, fun x hx => ?_⟩ hd⟩
          rcases List.mem_append.mp hx with h | h
          · exact iv_ints hf x h
          · rw [List.mem_singleton] at h; rw [h]; exact .inl ⟨0, rfl, by decide⟩
        · simp! [decide_eq_false (show ¬ ((w : Nat) : Int) = 1 by omega)]
      · rintro e rfl
        refine seq_at 1 (fun e => e = [.p 1 d, .v (rowD f), .v (.int (a : Nat)), .v (.int (w : Nat)), .no]) ?_ ?_
        · by_cases h : w = 2
          · subst h
            simp! [decide_eq_true (show ((2 : Nat) : Int) = 2 by rfl)]
            exact ⟨rfl, q2 _ _ ⟨_, .inr rfl, by simp; omega, iv_ints hf⟩ hd⟩
          · simp! [decide_eq_false (show ¬ ((w : Nat) : Int) = 2 by omega)]
        · rintro e rfl
          refine seq_at 2 (fun e => ∃ (d : D) (os : List D), Dk d ∧ (∀ x ∈ os, Iv x) ∧ os ≠ [] ∧ os.length ≤ 20 ∧ e = [.p 1 d, .v (rowD f), .v (.int (a : Nat)), .v (.int (w : Nat)), .o 0 (.lst os)]) ?_ ?_
          · have hl125 : ∀ (v d3 : D), Av 2 v → Dk d3 → wpSs T [.app 4 (.ifx (.prim .ne [.pk 1, .prim .tupD []]) (.prim .add [.prim .idx [.pk 1, .pk 2], .lit (.int 1)]) (.lit (.int 0)))] [.p 1 d3, .v (rowD f), .v (.int (a : Nat)), .v (.int (w : Nat)), .o 0 (.lst [.bl true, .non, .str "1", .int 1001, .int (-1001), .int 1000, .int (-1000), .tup [.int 1], .int (10 ^ 50), v])]
                ⟨fun e => ∃ (d : D) (os : List D), Dk d ∧ (∀ x ∈ os, Iv x) ∧ os ≠ [] ∧ os.length ≤ 20 ∧ e = [.p 1 d, .v (rowD f), .v (.int (a : Nat)), .v (.int (w : Nat)), .o 0 (.lst os)], fun s e => s.val.isSome = true ∧ Q s (outs 2 e), fun x e => E x (outs 2 e)⟩ := by
              intro v d3 hv hd3
              have base : ∀ x ∈ ([.bl true, .non, .str "1", .int 1001, .int (-1001), .int 1000, .int (-1000), .tup [.int 1], .int (10 ^ 50), v] : List D), Iv x := by
                intro x hx
                simp only [List.mem_cons, List.not_mem_nil, or_false] at hx  -- so
                rcases hx with rfl | rfl | rfl | rfl | rfl | rfl | rfl | rfl | rfl | rfl
                · exact .inr (.inr (.leaf (by simp [leafs])))
                · exact .inr (.inr (.leaf (by simp [leafs])))
                · exact .inr (.inl (by simp))
                · exact .inl ⟨_, rfl, by decide⟩
                · exact .inl ⟨_, rfl, by decide⟩
                · exact .inl ⟨_, rfl, by decide⟩
                · exact .inl ⟨_, rfl, by decide⟩
                · exact .inr (.inl (by simp))
                · exact .inr (.inl (by simp))
                · exact .inr (.inr hv)
              have add : ∀ i : Int, i.natAbs ≤ 1001 → ∀ x ∈ ([.bl true, .non, .str "1", .int 1001, .int (-1001), .int 1000, .int (-1000), .tup [.int 1], .int (10 ^ 50), v] : List D) ++ [.int i], Iv x := fun i hi x hx => by
                rcases List.mem_append.mp hx with h | h
                · exact base x h
                · rw [List.mem_singleton] at h; rw [h]; exact .inl ⟨i, rfl, hi⟩
              cases hfe : f.isEmpty with
              | true =>
                simp! [eok, eqn, hfe]
                exact ⟨sl_lt (by simp), d3, _, hd3, add 0 (by decide), by simp, by simp, rfl⟩
              | false =>
                have hne : f ≠ [] := fun e => by rw [e] at hfe; cases hfe
                have han := ha hne
                simp! [eok, eqn, hfe, atI_int, han]
                refine ⟨sl_lt (by simp), d3, _, hd3, add _ ?_, by simp, by simp, rfl⟩
                have : f.getD a 0 = f[a] := by simp [List.getD, List.getElem?_eq_getElem han]
                rw [this]
                have := hf _ (List.getElem_mem han)
                omega
            refine seq_at 1 (fun e => ∃ (v d3 : D), Av 2 v ∧ Dk d3 ∧ e = [.p 1 d3, .v (rowD f), .v (.int (a : Nat)), .v (.int (w : Nat)), .o 0 (.lst [.bl true, .non, .str "1", .int 1001, .int (-1001), .int 1000, .int (-1000), .tup [.int 1], .int (10 ^ 50), v])]) ?_ ?_
            · simp! [↓h125.call]
              refine ⟨⟨by decide, by decide, by decide⟩, d, 2, rfl, hd, hm, fun v d3 hv hd3 => ?_, fun xs d3 hv hd3 => ?_⟩
              · simp! []
                exact ⟨sl_le (by simp), v, d3, hv, hd3, rfl⟩
              · simp! []
                exact ⟨sl_le (by simp), _, d3, hv, hd3, rfl⟩
            · rintro e ⟨v, d3, hv, hd3, rfl⟩
              exact hl125 v d3 hv hd3
          · rintro e ⟨d, os, hd, hos, hone, hol, rfl⟩
            simp! [↓h112.call, c1, c2]
            refine ⟨d, os, rfl, hd, hone, by omega, fun x d2 hx hd2 => ?_⟩
            simp! [c1, c2]
            refine ⟨sl_le (by simp; omega), sl_le (by simp; omega), rfl, q1 _ _ ⟨_, .inl rfl, by simp; omega, fun y hy => ?_⟩ hd2⟩
            rcases List.mem_append.mp hy with hy | hy  -- so
            · rcases List.mem_append.mp hy with hy | hy
              · exact ht y hy
              · rw [List.mem_singleton] at hy; rw [hy]; exact hos x hx
            · exact hdr y hy
end K79
end
section
open PySem PySem.Spec L2 DL TW G
set_option Elab.async false
set_option linter.all false
set_option maxRecDepth 100000
set_option maxHeartbeats 3900000
namespace K79
local macro_rules | `(tactic| simp! [$ls,*]) => `(tactic| (simp (config := {dsimp := false, failIfUnchanged := false}) only [List.take_succ_cons, List.take_zero, List.drop_succ_cons, List.drop_zero, restore, unlocks, unlockS, locks, lockS, hold_ap, mkR, DL.fresh, outsOk, borrows, backs, backS, lend1, hasN, lentOf, namedOf, allClean, Sl.clean, cleanN, cleanN.cleans, exClean, imm, imms, List.foldl_nil, List.foldl_cons, List.getElem?_cons_succ, List.getElem?_cons_zero, List.set_cons_succ, List.set_cons_zero, reduceIte, ite_true, if_true, if_false, Bool.false_eq_true, reduceCtorEq, Bool.true_and, Bool.and_true, Bool.or_true, Bool.true_or, Bool.or_false, Bool.false_or, Bool.not_false, Bool.not_true, Nat.reduceBEq, beq_self_eq_true, true_and, and_true]; simp (config := {dsimp := false, failIfUnchanged := false}) only [↓w_lit, ↓w_glb, ↓w_var, ↓w_mv, ↓w_pk, ↓w_fld, ↓w_prim, ↓w_chn, ↓w_bop, ↓w_ifx, ↓w_call, ↓w_nil, ↓w_cons, ↓w_b1, ↓w_b2, ↓w_t0, ↓w_t1, ↓k_asg, ↓k_par, ↓k_setx, ↓k_app, ↓k_ext, ↓k_exp, ↓k_ret, ↓k_ret0, ↓k_pas, ↓k_iff, ↓k_rse0, ↓k_rse1, ↓k_tri, ↓k_s0, ↓k_s1, ↓k_for, ↓k_h0, ↓k_h1, ↓h_comp, ↓w_pop, ↓r_srcE, ↓r_srcZ, ↓r_in, ↓r_nin, ↓r_sl11, keyI_hold, keyS_hold, ↓r_op1, ↓r_op2, ↓sum_l, ↓sum_t, ↓r_mulT, ↓r_dK1, ↓r_lrng, ↓r_nne, ↓r_nhas, ↓r_napp, ↓r_isi, ↓r_set2, ↓r_okPk, ↓r_okL, ↓r_primQ, ↓r_prim0, ↓r_nestQ, ↓r_tstQ, ↓r_truQ, ↓r_asgN, ↓r_asgT, ↓r_srcQ, ↓r_srcS, ↓r_srcR, ↓r_srcR2, ↓r_setxQ, ↓r_modQ, ↓r_appQ, ↓r_extQ, ↓r_retQ, ↓r_callL, argsS, argS, lend1, hasN, lentOf, namedOf, Nat.reduceBEq, beq_self_eq_true, Bool.not_false, Bool.not_true, ↓r_pAdd, ↓r_pMul, ↓r_p2I, ↓r_sub, ↓r_fdiv, ↓r_mod, ↓r_pow, ↓r_le, ↓r_gt, ↓r_ge, ↓r_neg, ↓r_nt, ↓r_eq, ↓r_ne, ↓r_lt, ↓r_idx, ↓r_pSl, ↓r_sl00, ↓r_sl10, ↓r_sl01, ↓r_rev, ↓r_len, ↓r_abs, ↓r_min2, ↓r_max2, ↓r_sum, ↓r_all, ↓r_any, ↓r_pInts, ↓r_pBls, ↓r_int, ↓r_bool, ↓r_str, ↓r_repr, ↓r_tuple, ↓r_list, ↓r_tupD, ↓r_lstD, ↓r_dK0, ↓r_dT0, some_hold, ints_hold, dat_cons, dat_nil, q_ii, q_ss, q_bb, v_ii, v_bb, v_ss, ln0, ln1, ln2, ln3, ln4, ln5, ln6, ln7, ln8, nestK, rzs, Sl.rz, okr, isDisp, Rz.flat, Rz.dat, Rz.isFr, setS, setAll, f_no, f_v, f_o, Sl.val, mkR, DL.fresh, seqOf, locks, unlocks, lockS, unlockS, imm, imms, immR, List.foldl_nil, List.foldl_cons, List.getElem?_cons_succ, List.getElem?_cons_zero, List.set_cons_succ, List.set_cons_zero, true_and, and_true, if_true, ite_true, if_false, List.all_cons, List.all_nil, Bool.and_true, Bool.true_and, Bool.or_true, Bool.true_or, Bool.or_false, Bool.false_or, reduceCtorEq, reduceIte, Bool.false_eq_true, $ls,*]))
local macro_rules | `(tactic| dsimp! [$ls,*]) => `(tactic| refine ⟨_, (by simp (config := {dsimp := false}) only [clr_eq, bindT, bindTs, setS, f_no, f_v, f_o, List.foldl_nil, List.foldl_cons, List.getElem?_cons_succ, List.getElem?_cons_zero, List.set_cons_succ, List.set_cons_zero, if_true, ite_true, reduceIte, $ls,*] <;> first | done | exact rfl), ?_⟩)
theorem bd_bound {m : Nat} {h : Nat} : ∀ zs : List (Rd × Int), (∀ z ∈ zs, z.2.natAbs ≤ m) → (bdZ zs h).natAbs ≤ zs.length * (2 * m)
  | [], _ => by simp [bdZ]
  | z :: zs, hz => by
    have ih := bd_bound (h := h) zs fun w hw => hz w (by simp [hw])
    have h1 := hz z (by simp)
    have e : bdZ (z :: zs) h = bd1 h z + bdZ zs h := rfl
    have h2 : (bd1 h z).natAbs ≤ 2 * m := by unfold bd1; split <;> split <;> omega
    rw [e, List.length_cons, Nat.add_mul, Nat.one_mul]
    omega
theorem ends_small {n m : Nat} {rs : List (Nat × Nat)} {f : List Int} (hl : rs.length ≤ 16) (hm : m ≤ 1000) (hf : ∀ x ∈ f, x.natAbs ≤ m) : ∀ x ∈ endsF n rs f, x.natAbs < 10 ^ 12 := fun x hx => by
  obtain ⟨h, _, rfl⟩ := List.mem_map.mp hx
  have := bd_bound (m := m) (h := h) (rs.zip f) fun z hz => hf z.2 (List.of_mem_zip hz).2
  have hzl : (rs.zip f).length ≤ 16 := by rw [List.length_zip]; omega
  have h2 : (rs.zip f).length * (2 * m) ≤ 16 * 2000 := Nat.mul_le_mul hzl (by omega)
  have : (10 : Nat) ^ 12 > 16 * 2000 := by decide
  omega
theorem shw_row {a : List Int} (h : ∀ x ∈ a, x.natAbs < 10 ^ 12) : Shw 60 (a.length * 41) 1 (rowD a) := Shw.tup (ShwAll.map fun x hx => Shw.int (by decide) (h x hx))
theorem shw_nat {n : Nat} (h : n < 100000) : Shw 60 40 0 (.int (n : Nat)) := Shw.int (by decide) (by rw [Int.natAbs_natCast]; exact Nat.lt_trans h (by decide))
theorem shw_town {n : Nat} {rs : List (Nat × Nat)} (h : Tw n rs) : Shw 60 2000 4 (townD n rs) := by
  have h1 : ShwAll 60 (rs.length * (83 + 1)) 1 (rs.map roadD) := ShwAll.map fun r hr => by
    have := h.lt r hr
    have := h.le
    exact (Shw.tup (ShwAll.cons (shw_nat (n := r.1) (by omega)) (ShwAll.cons (shw_nat (n := r.2) (by omega)) ShwAll.nil))).up (by omega) (by omega)
  have h2 := h.few
  have h3 := h.le
  exact (Shw.tup (ShwAll.cons ((shw_nat (n := n) (by omega)).up (Nat.le_refl _) (Nat.zero_le 2)) (ShwAll.cons (Shw.tup h1) ShwAll.nil))).up (by omega) (by omega)
theorem dict_ints : ∀ gs : List Int, PyData.hasDictAll (gs.map PyData.int) = false
  | [] => rfl
  | g :: gs => by
    have := dict_ints gs
    simp [PyData.hasDictAll, PyData.hasDict, this]
theorem row_self (a : List Int) : (py (rowD a)).eqv (py (rowD a)) = true := by
  refine eqv_self _ ?_
  show (PyData.tuple (pys (a.map D.int))).hasDict = false
  rw [pys_ints]
  simp [PyData.hasDict, dict_ints]
theorem row_any {f : List Int} (h : f.length ≤ 1000) : Any (rowD f) := ⟨plain_ints f, fun xs e => by rcases e with e | e <;> cases e; simpa using h⟩
theorem isn_non {x : D} {P : D → Prop} : pw .isn [x, .non] P = P (.bl (!isNon x)) := rfl
/-- flow_for's flow is right -/
theorem for_right {n : Nat} {rs : List (Nat × Nat)} {p : List Int} (tn : Tw n rs) (hl : p.length = n) (h0 : p.sum = 0) : forErr n rs p (rowD (flowF n rs p)) = .non := by
  have h1 : allNum ((flowF n rs p).map D.int) = true := by simp [allNum, isNum, List.all_map]
  have h2 : ((flowF n rs p).map D.int).map toI = flowF n rs p := by rw [List.map_map]; exact (List.map_congr_left fun x _ => rfl).trans (List.map_id _)
  show forErr n rs p (.tup ((flowF n rs p).map D.int)) = _
  simp only [forErr]
  rw [if_pos (by simp [flowF_len]), if_pos h1, h2, endsF_flowF tn.ok tn.conn hl h0, if_pos (row_self p)]
theorem err_shw (m : Nat) (hm : m ≤ 1000) (d : D) (hd : Any d) : Shw 60 200 1 (flowErr m d) := by
  have hf : Shw 60 200 1 (.str "form") := ⟨rfl, by decide +kernel, by decide +kernel, by decide +kernel, by decide +kernel⟩
  cases d with
  | tup xs =>
    simp only [flowErr]
    split
    · unfold errAt
      split
      · rename_i i hi
        have hi' : i < xs.length := (List.findIdx?_eq_some_iff_getElem.mp hi).1
        have hr : Shw 60 60 0 (.str "road") := ⟨rfl, by decide +kernel, by decide +kernel, by decide +kernel, by decide +kernel⟩
        have := hd.sz xs (.inl rfl)
        exact (Shw.tup (ShwAll.cons hr (ShwAll.cons ((shw_nat (n := i) (by omega))) ShwAll.nil))).up (by omega) (Nat.le_refl _)
      · exact Shw.none.up (Nat.zero_le _) (Nat.zero_le _)
    · exact hf
  | _ => exact hf
theorem for_shw (n : Nat) (rs : List (Nat × Nat)) (p : List Int) (d : D) : Shw 60 200 1 (forErr n rs p d) := by
  have hf : Shw 60 200 1 (.str "form") := ⟨rfl, by decide +kernel, by decide +kernel, by decide +kernel, by decide +kernel⟩
  have he : Shw 60 200 1 (.str "ends") := ⟨rfl, by decide +kernel, by decide +kernel, by decide +kernel, by decide +kernel⟩
  cases d with
  | tup xs =>
    simp only [forErr]
    split
    · split
      · split
        · exact Shw.none.up (Nat.zero_le _) (Nat.zero_le _)
        · exact he
      · exact hf
    · exact hf
  | _ => exact hf
end K79
end
section
open PySem PySem.Spec L2 DL TW G
set_option Elab.async false
set_option linter.all false
set_option maxRecDepth 100000
set_option maxHeartbeats 3900000
namespace K79
local macro_rules | `(tactic| simp! [$ls,*]) => `(tactic| (simp (config := {dsimp := false, failIfUnchanged := false}) only [List.take_succ_cons, List.take_zero, List.drop_succ_cons, List.drop_zero, restore, unlocks, unlockS, locks, lockS, hold_ap, mkR, DL.fresh, outsOk, borrows, backs, backS, lend1, hasN, lentOf, namedOf, allClean, Sl.clean, cleanN, cleanN.cleans, exClean, imm, imms, List.foldl_nil, List.foldl_cons, List.getElem?_cons_succ, List.getElem?_cons_zero, List.set_cons_succ, List.set_cons_zero, reduceIte, ite_true, if_true, if_false, Bool.false_eq_true, reduceCtorEq, Bool.true_and, Bool.and_true, Bool.or_true, Bool.true_or, Bool.or_false, Bool.false_or, Bool.not_false, Bool.not_true, Nat.reduceBEq, beq_self_eq_true, true_and, and_true]; simp (config := {dsimp := false, failIfUnchanged := false}) only [↓w_lit, ↓w_glb, ↓w_var, ↓w_mv, ↓w_pk, ↓w_fld, ↓w_prim, ↓w_chn, ↓w_bop, ↓w_ifx, ↓w_call, ↓w_nil, ↓w_cons, ↓w_b1, ↓w_b2, ↓w_t0, ↓w_t1, ↓k_asg, ↓k_par, ↓k_setx, ↓k_app, ↓k_ext, ↓k_exp, ↓k_ret, ↓k_ret0, ↓k_pas, ↓k_iff, ↓k_rse0, ↓k_rse1, ↓k_tri, ↓k_s0, ↓k_s1, ↓k_for, ↓k_h0, ↓k_h1, ↓h_comp, ↓w_pop, ↓r_srcE, ↓r_srcZ, ↓r_in, ↓r_nin, ↓r_sl11, keyI_hold, keyS_hold, ↓r_op1, ↓r_op2, ↓sum_l, ↓sum_t, ↓r_mulT, ↓r_dK1, ↓r_lrng, ↓r_nne, ↓r_nhas, ↓r_napp, ↓r_isi, ↓r_set2, ↓r_okPk, ↓r_okL, ↓r_primQ, ↓r_prim0, ↓r_nestQ, ↓r_tstQ, ↓r_truQ, ↓r_asgN, ↓r_asgT, ↓r_srcQ, ↓r_srcS, ↓r_srcR, ↓r_srcR2, ↓r_setxQ, ↓r_modQ, ↓r_appQ, ↓r_extQ, ↓r_retQ, ↓r_callL, argsS, argS, lend1, hasN, lentOf, namedOf, Nat.reduceBEq, beq_self_eq_true, Bool.not_false, Bool.not_true, ↓r_pAdd, ↓r_pMul, ↓r_p2I, ↓r_sub, ↓r_fdiv, ↓r_mod, ↓r_pow, ↓r_le, ↓r_gt, ↓r_ge, ↓r_neg, ↓r_nt, ↓r_eq, ↓r_ne, ↓r_lt, ↓r_idx, ↓r_pSl, ↓r_sl00, ↓r_sl10, ↓r_sl01, ↓r_rev, ↓r_len, ↓r_abs, ↓r_min2, ↓r_max2, ↓r_sum, ↓r_all, ↓r_any, ↓r_pInts, ↓r_pBls, ↓r_int, ↓r_bool, ↓r_str, ↓r_repr, ↓r_tuple, ↓r_list, ↓r_tupD, ↓r_lstD, ↓r_dK0, ↓r_dT0, some_hold, ints_hold, dat_cons, dat_nil, q_ii, q_ss, q_bb, v_ii, v_bb, v_ss, ln0, ln1, ln2, ln3, ln4, ln5, ln6, ln7, ln8, nestK, rzs, Sl.rz, okr, isDisp, Rz.flat, Rz.dat, Rz.isFr, setS, setAll, f_no, f_v, f_o, Sl.val, mkR, DL.fresh, seqOf, locks, unlocks, lockS, unlockS, imm, imms, immR, List.foldl_nil, List.foldl_cons, List.getElem?_cons_succ, List.getElem?_cons_zero, List.set_cons_succ, List.set_cons_zero, true_and, and_true, if_true, ite_true, if_false, List.all_cons, List.all_nil, Bool.and_true, Bool.true_and, Bool.or_true, Bool.true_or, Bool.or_false, Bool.false_or, reduceCtorEq, reduceIte, Bool.false_eq_true, $ls,*]))
local macro_rules | `(tactic| dsimp! [$ls,*]) => `(tactic| refine ⟨_, (by simp (config := {dsimp := false}) only [clr_eq, bindT, bindTs, setS, f_no, f_v, f_o, List.foldl_nil, List.foldl_cons, List.getElem?_cons_succ, List.getElem?_cons_zero, List.set_cons_succ, List.set_cons_zero, if_true, ite_true, reduceIte, $ls,*] <;> first | done | exact rfl), ?_⟩)
def rightC : Ctr where
  run := fun ss Q _ => ∃ (d : D) (n : Nat) (rs : List (Nat × Nat)), ss = [.p 1 d, .v (townD n rs)] ∧ Dk d ∧ Tw n rs ∧ ∀ d', Dk d' → Q (.v (.bl true)) [.p 1 d', .no]
  mono := fun {ss Q Q' E E'} ⟨d, n, rs, h1, h2, h3, h4⟩ hq _ => ⟨d, n, rs, h1, h2, h3, fun d' a => hq _ _ (h4 d' a)⟩
theorem wp_law_is_town_right {T : Txt} {m : Nat} (O : OpsB T) (hm : 4 < m) (h102 : At T 102 endsC [false, false]) (h103 : At T 103 cutC [false, false]) (h111 : At T 111 dC [true, false]) (h112 : At T 112 pickC [true, false]) (h123 : At T 123 flowErrC [false, false]) (h124 : At T 124 forErrC [false, false, false]) (h125 : At T 125 (anyC m) [true, false])
    (h126 : At T 126 endsC [false, false]) (h127 : At T 127 cutC [false, false]) (h128 : At T 128 lflowC [true, false]) (h129 : At T 129 flowErrC [false, false]) (h130 : At T 130 forErrC [false, false, false]) (h131 : At T 131 bentC [true, false]) (h132 : At T 132 toldC [false, false, false]) : rightC.Le (ctrOf T 2 18 bd_law_is_town_right) := by
  rintro ss Q E ⟨d, n, rs, rfl, hd, tn, q⟩
  refine ⟨rfl, ?_⟩
  dsimp only [bd_law_is_town_right]
  show wpSs _ _ [_, _, _, _, _, _, _, _, _, _, _, _, _, _, _, _, _, _, _, _] _
  have hf16 := tn.few
  have n8 := tn.le
  have n0 := tn.pos
  have rpt := (shw_town tn).rp (by decide) (by decide) (by decide)
  refine seq_at 2 (fun e => ∃ (d : D) (f sc : List Int), Dk d ∧ f.length = rs.length ∧ (∀ x ∈ f, -1000 ≤ x ∧ x ≤ 1000) ∧ sc.length = n ∧ (∀ x ∈ sc, -1000 ≤ x ∧ x ≤ 1000) ∧ e = [.p 1 d, .v (townD n rs), .v (.int (rs.length : Nat)), .v (.str (py (townD n rs)).shown), .v (rowD f), .v (rowD sc), .no, .no, .no, .no, .no, .no, .no, .no, .no, .no, .no, .no, .no, .no]) ?_ ?_
  · refine seq_at 1 (fun e => e = [.p 1 d, .v (townD n rs), .v (.int (rs.length : Nat)), .v (.str (py (townD n rs)).shown), .no, .no, .no, .no, .no, .no, .no, .no, .no, .no, .no, .no, .no, .no, .no, .no]) ?_ ?_
    · simp! [atI1, rpt.p, rpt.s, rpt.d, rpt.l, List.length_map]
    · rintro e rfl
      simp! [↓h128.call, atI0]
      refine ⟨d, rs.length, rfl, hd, by omega, fun f d1 hfl hfb hd1 => ?_⟩
      simp! [atI0]
      refine ⟨rfl, by omega, by omega, comp_inv (fun k a e => ∃ (d : D) (sc : List Int) (x : Sl), a = sc.map D.int ∧ sc.length = k ∧ k ≤ n ∧ (∀ x ∈ sc, -1000 ≤ x ∧ x ≤ 1000) ∧ Dk d ∧ e = [.p 1 d, .v (townD n rs), .v (.int (rs.length : Nat)), .v (.str (py (townD n rs)).shown), .no, .no, .no, .no, .no, .no, .no, .no, .no, .no, .no, .no, .no, .no, x, .no]) ⟨d1, [], .no, rfl, rfl, by omega, by simp, hd1, rfl⟩ ?_ ?_⟩
      · rintro i d' a e hd' ⟨d, sc, x, rfl, hsl, hin, hs, hd, rfl⟩
        obtain ⟨rfl, hi'⟩ := rngD_get hd'
        dsimp! []
        simp! [↓h111.call]
        refine ⟨d, 2001, rfl, hd, by decide, by decide, fun y d2 hy hd2 => ?_⟩
        simp! []
        refine ⟨_, rfl, sl_lt (by rw [List.length_map]; omega), d2, sc ++ [(y : Int) - 1000], _, by simp, by simp [hsl], by omega, fun z hz => ?_, hd2, rfl⟩
        rcases List.mem_append.mp hz with h | h
        · exact hs z h
        · rw [List.mem_singleton] at h; omega
      · rintro a e ⟨d, sc, x, rfl, hsl, hin, hs, hd, rfl⟩
        rw [rngD_len] at hsl
        simp! []
        exact ⟨d, f, sc, hd, hfl, hfb, by omega, hs, rfl⟩
  · rintro e ⟨d, f, sc, hd, hfl, hfb, hsl, hsb, rfl⟩
    have hfs : ∀ x ∈ f, x.natAbs ≤ 1000 := fun x hx => by have := hfb x hx; omega
    have hes := ends_small (n := n) hf16 (Nat.le_refl 1000) hfs
    have hel : (endsF n rs f).length = n := by simp [endsF, endsL]
    have hesum : (endsF n rs f).sum = 0 := ends_sum tn.ok
    have hcs : ∀ x ∈ cutF rs sc, x.natAbs < 10 ^ 12 := fun x hx => by
      obtain ⟨r, _, rfl⟩ := List.mem_map.mp hx
      have g : ∀ k, -1000 ≤ sc.getD k 0 ∧ sc.getD k 0 ≤ 1000 := fun k => by
        rcases Nat.lt_or_ge k sc.length with h | h
        · have : sc.getD k 0 = sc[k] := by simp [List.getD, List.getElem?_eq_getElem h]
          rw [this]; exact hsb _ (List.getElem_mem h)
        · have : sc.getD k 0 = 0 := by simp [List.getD, List.getElem?_eq_none h]
          rw [this]; omega
      have := g r.1
      have := g r.2
      have : (10 : Nat) ^ 12 > 2000 := by decide
      omega
    have hcl : (cutF rs sc).length = rs.length := by simp [cutF]
    have se : Shw 60 656 1 (rowD (endsF n rs f)) := (shw_row hes).up (by rw [hel]; omega) (Nat.le_refl _)
    have sct : Shw 60 656 1 (rowD (cutF rs sc)) := (shw_row hcs).up (by rw [hcl]; omega) (Nat.le_refl _)
    have rp4 : Rp (.lst [rowD (endsF n rs f), rowD (endsF n rs f), rowD (cutF rs sc), rowD (cutF rs sc)]) := (Shw.lst (ShwAll.cons se (ShwAll.cons se (ShwAll.cons sct (ShwAll.cons sct ShwAll.nil))))).rp (by decide) (by decide) (by decide)
    refine seq_at 3 (fun e => ∃ x7, x7.free = true ∧ e = [.p 1 d, .v (townD n rs), .v (.int (rs.length : Nat)), .v (.str (py (townD n rs)).shown), .v (rowD f), .v (rowD sc), .v (rowD (endsF n rs f)), x7, .no, .no, .no, .no, .no, .no, .no, .no, .no, .no, .no, .no]) ?_ ?_
    · simp! [↓h126.call]
      refine ⟨n, rs, f, rfl, tn.lt, by omega, ?_⟩
      simp! [↓h102.call]
      refine ⟨n, rs, f, rfl, tn.lt, by omega, ?_⟩
      simp! [↓h102.call]
      refine ⟨n, rs, f, rfl, tn.lt, by omega, ?_⟩
      simp! [↓h103.call]
      refine ⟨n, rs, sc, rfl, tn.lt, hsl, by omega, ?_⟩
      simp! [↓h103.call]
      refine ⟨n, rs, sc, rfl, tn.lt, hsl, by omega, ?_⟩
      simp! [↓h127.call, rp4.p, rp4.s, rp4.d, rp4.l]
      refine ⟨n, rs, sc, rfl, tn.lt, hsl, by omega, ?_⟩
      simp! [↓h127.call, rp4.p, rp4.s, rp4.d, rp4.l]
      refine ⟨n, rs, sc, rfl, tn.lt, hsl, by omega, ?_⟩
      simp! [rp4.p, rp4.s, rp4.d, rp4.l, decide_true]
      exact ⟨_, f_o, rfl⟩
    · rintro e ⟨x7, f7, rfl⟩
      generalize endsF n rs f = p at hes hel hesum se rp4 ⊢
      refine seq_at 1 (fun e => ∃ x8 x9, (x8.free = true ∧ x9.free = true) ∧ e = [.p 1 d, .v (townD n rs), .v (.int (rs.length : Nat)), .v (.str (py (townD n rs)).shown), .v (rowD f), .v (rowD sc), .v (rowD p), x7, x8, x9, .no, .no, .no, .no, .no, .no, .no, .no, .no, .no]) ?_ ?_
      · simp! []
        refine ⟨rfl, comp_map' (fun d => match d with | .int i => .int (if i < 0 then -i else i) | _ => .non) (fun e => ∃ x, e = [.p 1 d, .v (townD n rs), .v (.int (rs.length : Nat)), .v (.str (py (townD n rs)).shown), .v (rowD f), .v (rowD sc), .v (rowD p), x7, .no, .no, .no, .no, .no, .no, .no, .no, .no, .no, .no, x]) ⟨_, rfl⟩ (by rw [List.length_map]; exact sl_le (by omega)) ?_ ?_⟩
        · rintro z e hz ⟨x, rfl⟩
          obtain ⟨i, _, rfl⟩ := List.mem_map.mp hz
          dsimp! []
          simp! []
          exact ⟨_, rfl⟩
        · rintro e ⟨x, rfl⟩
          have e1 : (p.map D.int).map (fun d => match d with | .int i => D.int (if i < 0 then -i else i) | _ => .non) = (p.map fun i => if i < 0 then -i else i).map D.int := by
            rw [List.map_map, List.map_map]  -- so
            exact List.map_congr_left fun i _ => rfl
          rw [e1]
          simp! [↓O.max.call]
          refine ⟨_, .inl rfl, fun h => ?_, fun M _ _ => ?_⟩
          · have : p = [] := by simpa using h
            rw [this] at hel
            simp at hel
            omega
          · simp! []
            split
            · refine for_inv (fun k e => ∃ x8 x9, (x8.free = true ∧ x9.free = true) ∧ e = [.p 1 d, .v (townD n rs), .v (.int (rs.length : Nat)), .v (.str (py (townD n rs)).shown), .v (rowD f), .v (rowD sc), .v (rowD p), x7, x8, x9, .no, .no, .no, .no, .no, .no, .no, .no, .no, .no]) ⟨_, _, ⟨f_no, f_no⟩, rfl⟩ ?_ ?_
              · rintro i z e hz ⟨x8, x9, ⟨f8, f9⟩, rfl⟩
                obtain ⟨b, rfl⟩ : ∃ b, z = .bl b := by
                  have := List.mem_of_getElem? hz
                  simp only [List.mem_cons, List.not_mem_nil, or_false] at this
                  rcases this with rfl | rfl <;> exact ⟨_, rfl⟩
                dsimp! [f8]
                simp! [↓h132.call, f9]
                refine ⟨n, rs, p, b, rfl, tn.ok, by omega, by omega, hel, fun h0 => ?_, fun h0 => absurd hesum h0⟩
                have hr := for_right tn hel h0
                have ha : Any (rowD (flowF n rs p)) := row_any (by rw [flowF_len]; omega)
                simp! [↓h130.call, f9]
                refine ⟨n, rs, p, _, rfl, tn.lt, by omega, by omega, ha, ?_⟩
                rw [hr]
                simp! [isn_non, DL.isNon, ↓h124.call]
                refine ⟨n, rs, p, _, rfl, tn.lt, by omega, by omega, ha, ?_⟩
                rw [hr]
                simp! [isn_non, DL.isNon]
                exact ⟨_, _, ⟨f_v, f_v⟩, rfl⟩
              · rintro e ⟨x8, x9, ff, rfl⟩
                simp! []
                exact ⟨x8, x9, ff, rfl⟩
            · exact ⟨_, _, ⟨f_no, f_no⟩, rfl⟩
      · rintro e ⟨x8, x9, ⟨f8, f9⟩, rfl⟩
        refine seq_at 2 (fun e => ∃ (d : D) (mv : Int) (od : List Int), Dk d ∧ mv ≠ 0 ∧ od.length = n - 1 ∧ e = [.p 1 d, .v (townD n rs), .v (.int (rs.length : Nat)), .v (.str (py (townD n rs)).shown), .v (rowD f), .v (rowD sc), .v (rowD p), x7, x8, x9, .v (.int mv), .v (rowD od), .no, .no, .no, .no, .no, .no, .no, .no]) ?_ ?_
        · simp! [↓h112.call]
          refine ⟨d, _, rfl, hd, by simp, by simp, fun x d1 hx hd1 => ?_⟩
          obtain ⟨mv, rfl, hmv⟩ : ∃ mv : Int, x = .int mv ∧ mv ≠ 0 := by
            simp only [List.mem_cons, List.not_mem_nil, or_false] at hx  -- so
            rcases hx with rfl | rfl | rfl | rfl | rfl | rfl <;> exact ⟨_, rfl, by decide⟩
          simp! [atI0]
          refine ⟨rfl, by omega, by omega, comp_inv (fun k a e => ∃ (d : D) (od : List Int) (x : Sl), a = od.map D.int ∧ od.length = k ∧ k ≤ n - 1 ∧ Dk d ∧ e = [.p 1 d, .v (townD n rs), .v (.int (rs.length : Nat)), .v (.str (py (townD n rs)).shown), .v (rowD f), .v (rowD sc), .v (rowD p), x7, x8, x9, .v (.int mv), .no, .no, .no, .no, .no, .no, .no, x, .no]) ⟨d1, [], .no, rfl, rfl, by omega, hd1, rfl⟩ ?_ ?_⟩
          · rintro i d' a e hd' ⟨d, od, x, rfl, hol, hin, hd, rfl⟩
            obtain ⟨rfl, hi'⟩ := rngD_get hd'
            dsimp! []
            simp! [↓h111.call]
            refine ⟨d, 7, rfl, hd, by decide, by decide, fun y d2 hy hd2 => ?_⟩
            simp! []
            exact ⟨_, rfl, sl_lt (by rw [List.length_map]; omega), d2, od ++ [(y : Int) - 3], _, by simp, by simp [hol], by omega, hd2, rfl⟩
          · rintro a e ⟨d, od, x, rfl, hol, hin, hd, rfl⟩
            rw [rngD_len] at hol
            simp! []
            exact ⟨d, mv, od, hd, hmv, by omega, rfl⟩
        · rintro e ⟨d, mv, od, hd, hmv, hol, rfl⟩
          refine seq_at 1 (fun e => ∃ (d : D) (x12 : Sl), Dk d ∧ x12.free = true ∧ e = [.p 1 d, .v (townD n rs), .v (.int (rs.length : Nat)), .v (.str (py (townD n rs)).shown), .v (rowD f), .v (rowD sc), .v (rowD p), x7, x8, x9, .v (.int mv), .v (rowD od), x12, .no, .no, .no, .no, .no, .no, .no]) ?_ ?_
          · have two : ∀ (d : D) (qs : List (List Int)), Dk d → (∀ r ∈ qs, r.length = n ∧ r.sum ≠ 0) → ∀ K : Env' → Prop, (∀ d x12, Dk d → x12.free = true → K [.p 1 d, .v (townD n rs), .v (.int (rs.length : Nat)), .v (.str (py (townD n rs)).shown), .v (rowD f), .v (rowD sc), .v (rowD p), x7, x8, x9, .v (.int mv), .v (rowD od), x12, .no, .no, .no, .no, .no, .no, .no]) →
                forW (.nm 12) (hold (fun e N => wpSs T [.iff (.prim .ne [.call 132 [.pk 1, .pk 12, .lit (.bl false)], .lit (.str "unfit")]) [.ret (.lit (.bl false))] []] e ⟨N, fun s e => s.val.isSome = true ∧ Q s (outs 2 e), fun x e => E x (outs 2 e)⟩) ⟨⟩) (qs.map rowD) [.p 1 d, .v (townD n rs), .v (.int (rs.length : Nat)), .v (.str (py (townD n rs)).shown), .v (rowD f), .v (rowD sc), .v (rowD p), x7, x8, x9, .v (.int mv), .v (rowD od), .no, .no, .no, .no, .no, .no, .no, .no] (hold K ⟨⟩) := by
              intro d qs hd hqs K hK
              refine for_inv (fun k e => ∃ x12, x12.free = true ∧ e = [.p 1 d, .v (townD n rs), .v (.int (rs.length : Nat)), .v (.str (py (townD n rs)).shown), .v (rowD f), .v (rowD sc), .v (rowD p), x7, x8, x9, .v (.int mv), .v (rowD od), x12, .no, .no, .no, .no, .no, .no, .no]) ⟨_, f_no, rfl⟩ ?_ ?_
              · rintro i z e hz ⟨x12, f12, rfl⟩
                rw [List.getElem?_map] at hz
                obtain ⟨r, hr, rfl⟩ := Option.map_eq_some_iff.mp hz
                obtain ⟨hr1, hr2⟩ := hqs r (List.mem_of_getElem? hr)
                dsimp! [f12]
                simp! [↓h132.call]
                refine ⟨n, rs, r, false, rfl, tn.ok, by omega, by omega, hr1, fun h => absurd h hr2, fun _ => ?_⟩
                simp! [decide_true]
                exact ⟨_, f_v, rfl⟩
              · rintro e ⟨x12, f12, rfl⟩
                exact hK d x12 hd f12
            simp! [↓O.sum.call]
            simp! [atI0, ↓O.mulT.call]
            refine ⟨sl_le (by simp; omega), ?_⟩
            simp! [atI0, ↓O.mulT.call]
            refine ⟨by simp, by omega, by omega, by simp, ?_⟩
            rw [rep_flat, rep_ints]
            simp! [↓h112.call]
            refine ⟨d, _, rfl, hd, by simp, by simp, fun x d1 hx hd1 => ?_⟩
            obtain ⟨y, rfl, hy⟩ : ∃ y : Int, x = .int y ∧ y ≠ 0 := by
              simp only [List.mem_cons, List.not_mem_nil, or_false] at hx  -- so
              rcases hx with rfl | rfl <;> exact ⟨_, rfl, by decide⟩
            simp! []
            refine ⟨sl_le (by simp; omega), ?_⟩
            have key := two d1 [(mv - od.sum) :: od, List.replicate ((n : Int) - 1).toNat 0 ++ [y]] hd1 (fun r hr => by
              simp only [List.mem_cons, List.not_mem_nil, or_false] at hr
              rcases hr with rfl | rfl
              · exact ⟨by simp [hol]; omega, by simp only [List.sum_cons]; omega⟩
              · refine ⟨by simp; omega, ?_⟩
                rw [List.sum_append]
                have : (List.replicate ((n : Int) - 1).toNat (0 : Int)).sum = 0 := by
                  generalize ((n : Int) - 1).toNat = k
                  induction k with
                  | zero => rfl
                  | succ k ih => rw [List.replicate_succ, List.sum_cons, ih]; rfl
                rw [this]
                simpa using hy)
            have eL : [D.tup ([D.int (mv - od.sum)] ++ od.map D.int), D.tup ((List.replicate ((n : Int) - 1).toNat (0 : Int)).map D.int ++ [D.int y])] = [(mv - od.sum) :: od, List.replicate ((n : Int) - 1).toNat 0 ++ [y]].map rowD := by simp
            rw [eL]
            refine key _ fun d2 x12 h1 h2 => ?_
            simp! []
            exact ⟨d2, x12, h1, h2, rfl⟩
          · rintro e ⟨d, x12, hd, f12, rfl⟩
            refine seq_at 1 (fun e => ∃ (d : D) (x7 x13 x14 x15 x16 x17 : Sl), Dk d ∧ e = [.p 1 d, .v (townD n rs), .v (.int (rs.length : Nat)), .v (.str (py (townD n rs)).shown), .v (rowD f), .v (rowD sc), .v (rowD p), x7, x8, x9, .v (.int mv), .v (rowD od), x12, x13, x14, x15, x16, x17, .no, .no]) ?_ ?_
            · have many : ∀ (d : D) (vs : List D), Dk d → (∀ v ∈ vs, Any v ∧ Rp v) → ∀ K : Env' → Prop, (∀ d x7 x13 x14 x15 x16 x17, Dk d → K [.p 1 d, .v (townD n rs), .v (.int (rs.length : Nat)), .v (.str (py (townD n rs)).shown), .v (rowD f), .v (rowD sc), .v (rowD p), x7, x8, x9, .v (.int mv), .v (rowD od), x12, x13, x14, x15, x16, x17, .no, .no]) →
                  forW (.tp [.nm 13, .nm 14]) (hold (fun e N => wpSs T [.asg (.nm 15) (.prim .tuple [.comp [19] (.nm 19) .seq [.pk 6] [] (.prim .max2 [.prim .neg [.lit (.int 1000)], .prim .min2 [.lit (.int 1000), .pk 19]])]), .par [16, 17] [.prim .lstD [.call 129 [.pk 1, .pk 14], .call 130 [.pk 1, .pk 15, .pk 14]], .prim .repr_ [.pk 14]], .asg (.nm 7) (.prim .lstD [.call 123 [.pk 1, .pk 14], .call 124 [.pk 1, .pk 15, .pk 14]]), .iff (.prim .eq [.pk 13, .lit (.int 1)]) [.asg (.nm 7) (.prim .lstD [.call 123 [.pk 1, .pk 14], .call 124 [.pk 1, .pk 15, .pk 14]])] [], .iff (.bop false [.prim .ne [.prim .repr_ [.pk 7], .prim .repr_ [.pk 16]], .prim .ne [.prim .repr_ [.pk 14], .pk 17]]) [.ret (.lit (.bl false))] []] e ⟨N, fun s e => s.val.isSome = true ∧ Q s (outs 2 e), fun x e => E x (outs 2 e)⟩) ⟨⟩) (enumD vs) [.p 1 d, .v (townD n rs), .v (.int (rs.length : Nat)), .v (.str (py (townD n rs)).shown), .v (rowD f), .v (rowD sc), .v (rowD p), x7, x8, x9, .v (.int mv), .v (rowD od), x12, .no, .no, .no, .no, .no, .no, .no] (hold K ⟨⟩) := by
                intro d vs hd hvs K hK
                refine for_inv (fun k e => ∃ x7 x13 x14 x15 x16 x17, ((x7.free = true ∧ x13.free = true ∧ x14.free = true) ∧ x15.free = true ∧ x16.free = true ∧ x17.free = true) ∧ e = [.p 1 d, .v (townD n rs), .v (.int (rs.length : Nat)), .v (.str (py (townD n rs)).shown), .v (rowD f), .v (rowD sc), .v (rowD p), x7, x8, x9, .v (.int mv), .v (rowD od), x12, x13, x14, x15, x16, x17, .no, .no]) ⟨_, _, _, _, _, _, ⟨⟨f7, f_no, f_no⟩, f_no, f_no, f_no⟩, rfl⟩ ?_ ?_
                · rintro i z e hz ⟨x7, x13, x14, x15, x16, x17, ⟨⟨f7, f13, f14⟩, f15, f16, f17⟩, rfl⟩
                  obtain ⟨v, hv, rfl⟩ := enum_get hz
                  obtain ⟨va, vr⟩ := hvs v (List.mem_of_getElem? hv)
                  dsimp! [f13, f14]
                  have rpl : ∀ w : List Int, Rp (.lst [flowErr rs.length v, forErr n rs w v]) := fun w => (Shw.lst (ShwAll.cons (err_shw _ (by omega) v va) (ShwAll.cons (for_shw n rs w v) ShwAll.nil))).rp (by decide) (by decide) (by decide)
                  refine seq_at 1 (fun e => ∃ w : List Int, e = [.p 1 d, .v (townD n rs), .v (.int (rs.length : Nat)), .v (.str (py (townD n rs)).shown), .v (rowD f), .v (rowD sc), .v (rowD p), x7, x8, x9, .v (.int mv), .v (rowD od), x12, .v (.int (i : Nat)), .v v, .v (rowD w), x16, x17, .no, .no]) ?_ ?_
                  · simp! []
                    refine ⟨rfl, comp_map' (fun d => match d with | .int i => .int (if (if i < 1000 then i else 1000) > -1000 then (if i < 1000 then i else 1000) else -1000) | _ => .non) (fun e => ∃ x, e = [.p 1 d, .v (townD n rs), .v (.int (rs.length : Nat)), .v (.str (py (townD n rs)).shown), .v (rowD f), .v (rowD sc), .v (rowD p), x7, x8, x9, .v (.int mv), .v (rowD od), x12, .v (.int (i : Nat)), .v v, x15, x16, x17, .no, x]) ⟨_, rfl⟩ (by rw [List.length_map]; exact sl_le (by omega)) ?_ ?_⟩
                    · rintro z e hz ⟨x, rfl⟩
                      obtain ⟨j, _, rfl⟩ := List.mem_map.mp hz
                      dsimp! []
                      simp! []
                      exact ⟨_, rfl⟩
                    · rintro e ⟨x, rfl⟩
                      have e1 : (p.map D.int).map (fun d => match d with | .int i => D.int (if (if i < 1000 then i else 1000) > -1000 then (if i < 1000 then i else 1000) else -1000) | _ => .non) = (p.map fun i => if (if i < 1000 then i else 1000) > -1000 then (if i < 1000 then i else 1000) else -1000).map D.int := by
                        rw [List.map_map, List.map_map]  -- so
                        exact List.map_congr_left fun j _ => rfl
                      rw [e1]
                      simp! [f15]
                      exact ⟨_, rfl⟩
                  · rintro e ⟨w, rfl⟩
                    have rw' := rpl w
                    refine seq_at 1 (fun e => e = [.p 1 d, .v (townD n rs), .v (.int (rs.length : Nat)), .v (.str (py (townD n rs)).shown), .v (rowD f), .v (rowD sc), .v (rowD p), x7, x8, x9, .v (.int mv), .v (rowD od), x12, .v (.int (i : Nat)), .v v, .v (rowD w), .o 0 (.lst [flowErr rs.length v, forErr n rs w v]), .v (.str (py v).shown), .no, .no]) ?_ ?_
                    · simp! [↓h129.call]
                      refine ⟨n, rs, v, rfl, va, ?_⟩
                      simp! [↓h130.call]
                      refine ⟨n, rs, w, v, rfl, tn.lt, by omega, by omega, va, ?_⟩
                      simp! [vr.p, vr.s, vr.d, vr.l, f16, f17]
                    · rintro e rfl
                      refine seq_at 1 (fun e => e = [.p 1 d, .v (townD n rs), .v (.int (rs.length : Nat)), .v (.str (py (townD n rs)).shown), .v (rowD f), .v (rowD sc), .v (rowD p), .o 0 (.lst [flowErr rs.length v, forErr n rs w v]), x8, x9, .v (.int mv), .v (rowD od), x12, .v (.int (i : Nat)), .v v, .v (rowD w), .o 0 (.lst [flowErr rs.length v, forErr n rs w v]), .v (.str (py v).shown), .no, .no]) ?_ ?_
                      · simp! [↓h123.call]
                        refine ⟨n, rs, v, rfl, va, ?_⟩
                        simp! [↓h124.call]
                        refine ⟨n, rs, w, v, rfl, tn.lt, by omega, by omega, va, ?_⟩
                        simp! [f7]
                      · rintro e rfl
                        refine seq_at 1 (fun e => e = [.p 1 d, .v (townD n rs), .v (.int (rs.length : Nat)), .v (.str (py (townD n rs)).shown), .v (rowD f), .v (rowD sc), .v (rowD p), .o 0 (.lst [flowErr rs.length v, forErr n rs w v]), x8, x9, .v (.int mv), .v (rowD od), x12, .v (.int (i : Nat)), .v v, .v (rowD w), .o 0 (.lst [flowErr rs.length v, forErr n rs w v]), .v (.str (py v).shown), .no, .no]) ?_ ?_
                        · by_cases h : i = 1
                          · subst h
                            simp! [decide_eq_true (show ((1 : Nat) : Int) = 1 by rfl), ↓h123.call]
                            refine ⟨n, rs, v, rfl, va, ?_⟩
                            simp! [↓h124.call]
                            refine ⟨n, rs, w, v, rfl, tn.lt, by omega, by omega, va, ?_⟩
                            simp! []
                          · simp! [decide_eq_false (show ¬ ((i : Nat) : Int) = 1 by omega), ↓h123.call]
                        · rintro e rfl
                          simp! [rw'.p, rw'.s, rw'.d, rw'.l, vr.p, vr.s, vr.d, vr.l, decide_true]
                          exact ⟨_, _, _, _, _, _, ⟨⟨f_o, f_v, f_v⟩, f_v, f_o, f_v⟩, rfl⟩
                · rintro e ⟨x7, x13, x14, x15, x16, x17, _, rfl⟩
                  exact hK d x7 x13 x14 x15 x16 x17 hd
              have bvp : ∀ v, Bv v → Any v ∧ Rp v := fun v h => ⟨bv_any h, (bv_shw h).rp (by decide) (by decide) (by decide)⟩
              have avp : ∀ v, Av 4 v → Any v ∧ Rp v := fun v h => ⟨av_any h, (av_shw h).rp (by decide) (by decide) (by decide)⟩
              have fvp : Any (rowD f) ∧ Rp (rowD f) := ⟨row_any (by omega), ((shw_row fun x hx => Nat.lt_of_le_of_lt (hfs x hx) (by decide)).up (w' := 1000) (by rw [hfl]; omega) (Nat.le_refl _)).rp (by decide) (by decide) (by decide)⟩
              have nvp : Any (.tup []) ∧ Rp (.tup []) := ⟨⟨rfl, fun xs e => by rcases e with e | e <;> cases e; simp⟩, (Shw.tup (B := 60) (k := 0) ShwAll.nil).rp (by decide) (by decide) (by decide)⟩
              simp! [↓h131.call]
              refine ⟨d, f, rfl, hd, by omega, hfb, fun v1 d1 b1 hd1 => ?_, fun y1 d1 b1 hd1 => ?_⟩
              all_goals
                simp! [↓h131.call]
                refine ⟨d1, f, rfl, hd1, by omega, hfb, fun v2 d2 b2 hd2 => ?_, fun y2 d2 b2 hd2 => ?_⟩
                all_goals
                  simp! [↓h125.call]
                  refine ⟨d2, 4, rfl, hd2, hm, fun v3 d3 b3 hd3 => ?_, fun y3 d3 b3 hd3 => ?_⟩
                  all_goals
                    simp! []
                    refine many d3 _ hd3 (fun v hv => ?_) _ (fun d x7 x13 x14 x15 x16 x17 hd => ?_)
                    · simp only [List.mem_cons, List.not_mem_nil, or_false] at hv
                      rcases hv with rfl | rfl | rfl | rfl | rfl
                      · exact fvp
                      · exact bvp _ b1
                      · exact bvp _ b2
                      · exact avp _ b3
                      · exact nvp
                    · simp! []
                      exact ⟨d, x7, x13, x14, x15, x16, x17, hd, rfl⟩
            · rintro e ⟨d, x7, x13, x14, x15, x16, x17, hd, rfl⟩
              simp! [rpt.p, rpt.s, rpt.d, rpt.l, decide_true]
              exact ⟨rfl, q d hd⟩
def lawC : Ctr where
  run := fun ss Q _ => ∃ ns : List Int, ss = [.v (.scr ns)] ∧ ns.length ≤ 63 ∧ Q (.v (.bl true)) [.no]
  mono := fun {ss Q Q' E E'} ⟨ns, h1, h2, h3⟩ hq _ => ⟨ns, h1, h2, hq _ _ h3⟩
theorem wp_law {T : Txt} (h110 : At T 110 deckC [false]) (h112 : At T 112 pickC [true, false]) (h113 : At T 113 townC [true, false, false]) (h133 : At T 133 rightC [true, false]) : lawC.Le (ctrOf T 1 2 bd_law) := by
  rintro ss Q E ⟨ns, rfl, hl, q⟩
  refine ⟨rfl, ?_⟩
  dsimp only [bd_law]
  show wpSs _ _ [_, _, _] _
  simp! [↓h110.call]
  refine ⟨ns, rfl, hl, fun d hd => ?_⟩
  simp! []
  refine ⟨by omega, by omega, for_inv (fun k e => ∃ (d : D) (x2 : Sl), x2.free = true ∧ Dk d ∧ e = [.v (.scr ns), .o 1 d, x2]) ⟨d, .no, f_no, hd, rfl⟩ ?_ ?_⟩
  · rintro turn _ e hi ⟨d, x2, f2, hd, rfl⟩
    obtain ⟨rfl, hi⟩ := rngD_get hi
    dsimp! [f2]
    simp! [↓h112.call, ↓h113.call]
    refine ⟨d, _, rfl, hd, by simp, by simp, fun x d2 hx hd2 => ?_⟩
    obtain ⟨most, rfl, hm⟩ : ∃ most : Nat, x = .int (most : Nat) ∧ 0 < most ∧ most ≤ 8 := by
      simp only [List.mem_cons, List.not_mem_nil, or_false] at hx  -- so
      rcases hx with rfl | rfl | rfl
      · exact ⟨8, rfl, by decide, by decide⟩
      · exact ⟨4, rfl, by decide, by decide⟩
      · exact ⟨2, rfl, by decide, by decide⟩
    simp! [↓h113.call]
    refine ⟨d2, most, 6, rfl, hd2, hm.1, hm.2, by decide, fun n rs d3 tn _ hd3 => ?_⟩
    simp! [↓h133.call]
    refine ⟨d3, n, rs, rfl, hd3, tn, fun d4 hd4 => ?_⟩
    simp! []
    exact ⟨d4, _, f_v, hd4, rfl⟩
  · rintro e ⟨d, x2, f2, hd, rfl⟩
    simp! []
    exact ⟨rfl, q⟩
end K79
end
section
open PySem PySem.Spec L2 DL
set_option Elab.async false
set_option linter.all false
set_option maxRecDepth 100000
set_option maxHeartbeats 3900000
namespace K79
def ca (K : PySem.W.Frag) : Nat → Addr | 0 => He.ga K "LoanError" | _ => He.ga K "Unfit"
def cf : Nat → Str  | _ => ""
abbrev cn (K : PySem.W.Frag) : Cn := ⟨K, ca K, cf⟩
def ctrs (m : Nat) : Nat → Ctr := opsCtrB fun | 120 => numC | 121 => withinC | 100 => reachedC | 101 => moneyC | 122 => isRowC | 123 => flowErrC | 102 => endsC | 103 => cutC | 104 => treeC | 105 => flowC | 124 => forErrC | 110 => deckC | 111 => dC | 112 => pickC | 125 => anyC m | 113 => townC | 126 => endsC | 127 => cutC | 128 => lflowC | 129 => flowErrC | 130 => forErrC | 131 => bentC | 132 => toldC | 133 => rightC | 119 => lawC | _ => lawC
def lens : Nat → List Bool := opsLenB fun | 120 => [false] | 121 => [false, false, false] | 100 => [false, false, false] | 101 => [false] | 122 => [false, false] | 123 => [false, false] | 102 => [false, false] | 103 => [false, false] | 104 => [false] | 105 => [false, false] | 124 => [false, false, false] | 110 => [false] | 111 => [true, false] | 112 => [true, false] | 125 => [true, false] | 113 => [true, false, false] | 126 => [false, false] | 127 => [false, false] | 128 => [true, false] | 129 => [false, false] | 130 => [false, false, false] | 131 => [true, false] | 132 => [false, false, false] | 133 => [true, false] | 119 => [false] | _ => []
def csts : Nat → D | 0 => .int 1000 | _ => .non
def subs : Nat → Nat → Bool | 0, 0 => true | 0, 1 => false | _, 0 => true | _, 1 => true | _, _ => false
def Tm (m : Nat) : Txt := ⟨ctrs m, lens, csts, subs⟩
abbrev Tx : Txt := Tm 5
theorem ops {m : Nat} : OpsB (Tm m) := opsB_mk rfl rfl
section
variable {w : World} {K : PySem.W.Frag} {mg : Str → Option Value} {h base : Heap}
theorem em (s : SaysL Pg fa fn xs K) (X : K.In h) (G : h.Ns mainGlobals mg) : EM Pg K mg (cn K) Tx xl where
  nm := by
    intro p hp
    simp only [xl, List.mem_cons, List.not_mem_nil, or_false] at hp
    rcases hp with rfl | rfl
    · exact He.glo_ok X G (s.d.facts (f := .glo "LoanError") (by simp [fa]))
    · exact He.glo_ok X G (s.d.facts (f := .glo "Unfit") (by simp [fa]))
  sub := by
    intro i p hp
    simp only [xl, List.mem_cons, List.not_mem_nil, or_false] at hp
    rcases hp with rfl | rfl
    · match i with
      | 0 => exact He.exm_ok (s.d.facts (f := .exm "LoanError" "LoanError" true) (by simp [fa]))
      | i + 1 => exact He.exm_ok (s.d.facts (f := .exm "Unfit" "LoanError" true) (by simp [fa]))
    · match i with
      | 0 => exact He.exm_ok (s.d.facts (f := .exm "LoanError" "Unfit" false) (by simp [fa]))
      | i + 1 => exact He.exm_ok (s.d.facts (f := .exm "Unfit" "Unfit" true) (by simp [fa]))
  cf := by
    intro p hp f hf
    simp only [xl, List.mem_cons, List.not_mem_nil, or_false] at hp
    rcases hp with rfl | rfl
    · cases hf
    · cases hf
  xf := by
    intro p hp hf
    simp only [xl, List.mem_cons, List.not_mem_nil, or_false] at hp
    rcases hp with rfl | rfl
    · exact (hf rfl).elim
    · exact (hf rfl).elim
  ra := by
    intro p hp hf
    simp only [xl, List.mem_cons, List.not_mem_nil, or_false] at hp
    rcases hp with rfl | rfl
    · exact (hf rfl).elim
    · exact (hf rfl).elim
theorem ep (s : SaysL Pg fa fn xs K) (X : K.In h) (G : h.Ns mainGlobals mg) : EP K mg (cn K) xp := by
  intro p hp
  simp only [xp, List.mem_cons, List.not_mem_nil, or_false] at hp
  rcases hp with rfl | rfl
  · obtain ⟨a, b, d, e⟩ := He.exc_ok (s.d.facts (f := .exc "LoanError") (by simp [fa])); exact ⟨He.glo_ok X G (s.d.facts (f := .glo "LoanError") (by simp [fa])), a, b, d, e⟩
  · obtain ⟨a, b, d, e⟩ := He.exc_ok (s.d.facts (f := .exc "Unfit") (by simp [fa])); exact ⟨He.glo_ok X G (s.d.facts (f := .glo "Unfit") (by simp [fa])), a, b, d, e⟩
theorem bl (s : SaysL Pg fa fn xs K) (X : K.In h) (G : h.Ns mainGlobals mg) : ∀ x ∈ biN, mg x = none := free_all s.d X G (by simp [fa, biN])
theorem bp_is_number : BnP st_is_number "is_number" pa_is_number := fun _ _ _ _ _ _ us hl => match us, hl with | [_], _ => rfl
theorem bp_is_within : BnP st_is_within "is_within" pa_is_within := fun _ _ _ _ _ _ us hl => match us, hl with | [_, _, _], _ => rfl
theorem bp_reached : BnP st_reached "reached" pa_reached := fun _ _ _ _ _ _ us hl => match us, hl with | [_, _, _], _ => rfl
theorem bp_money : BnP st_money "money" pa_money := fun _ _ _ _ _ _ us hl => match us, hl with | [_], _ => rfl
theorem bp_is_row : BnP st_is_row "is_row" pa_is_row := fun _ _ _ _ _ _ us hl => match us, hl with | [_, _], _ => rfl
theorem bp_flow_error : BnP st_flow_error "flow_error" pa_flow_error := fun _ _ _ _ _ _ us hl => match us, hl with | [_, _], _ => rfl
theorem bp_ends : BnP st_ends "ends" pa_ends := fun _ _ _ _ _ _ us hl => match us, hl with | [_, _], _ => rfl
theorem bp_cut_flow : BnP st_cut_flow "cut_flow" pa_cut_flow := fun _ _ _ _ _ _ us hl => match us, hl with | [_, _], _ => rfl
theorem bp_tree_places : BnP st_tree_places "tree_places" pa_tree_places := fun _ _ _ _ _ _ us hl => match us, hl with | [_], _ => rfl
theorem bp_flow_for : BnP st_flow_for "flow_for" pa_flow_for := fun _ _ _ _ _ _ us hl => match us, hl with | [_, _], _ => rfl
theorem bp_flow_for_error : BnP st_flow_for_error "flow_for_error" pa_flow_for_error := fun _ _ _ _ _ _ us hl => match us, hl with | [_, _, _], _ => rfl
theorem bp_law_deck : BnP st_law_deck "_law_deck" pa_law_deck := fun _ _ _ _ _ _ us hl => match us, hl with | [_], _ => rfl
theorem bp_law_draw : BnP st_law_draw "_law_draw" pa_law_draw := fun _ _ _ _ _ _ us hl => match us, hl with | [_, _], _ => rfl
theorem bp_law_pick : BnP st_law_pick "_law_pick" pa_law_pick := fun _ _ _ _ _ _ us hl => match us, hl with | [_, _], _ => rfl
theorem bp_law_any : BnP st_law_any "_law_any" pa_law_any := fun _ _ _ _ _ _ us hl => match us, hl with | [_, _], _ => rfl
theorem bp_law_town : BnP st_law_town "_law_town" pa_law_town := fun _ _ _ _ _ _ us hl => match us, hl with | [_, _, _], _ => rfl
theorem bp_law_ends : BnP st_law_ends "_law_ends" pa_law_ends := fun _ _ _ _ _ _ us hl => match us, hl with | [_, _], _ => rfl
theorem bp_law_cut : BnP st_law_cut "_law_cut" pa_law_cut := fun _ _ _ _ _ _ us hl => match us, hl with | [_, _], _ => rfl
theorem bp_law_flow : BnP st_law_flow "_law_flow" pa_law_flow := fun _ _ _ _ _ _ us hl => match us, hl with | [_, _], _ => rfl
theorem bp_law_flow_due : BnP st_law_flow_due "_law_flow_due" pa_law_flow_due := fun _ _ _ _ _ _ us hl => match us, hl with | [_, _], _ => rfl
theorem bp_law_for_due : BnP st_law_for_due "_law_for_due" pa_law_for_due := fun _ _ _ _ _ _ us hl => match us, hl with | [_, _, _], _ => rfl
theorem bp_law_bent : BnP st_law_bent "_law_bent" pa_law_bent := fun _ _ _ _ _ _ us hl => match us, hl with | [_, _], _ => rfl
theorem bp_law_told : BnP st_law_told "_law_told" pa_law_told := fun _ _ _ _ _ _ us hl => match us, hl with | [_, _, _], _ => rfl
theorem bp_law_is_town_right : BnP st_law_is_town_right "_law_is_town_right" pa_law_is_town_right := fun _ _ _ _ _ _ us hl => match us, hl with | [_, _], _ => rfl
theorem bp_law : BnP st_law "law" pa_law := fun _ _ _ _ _ _ us hl => match us, hl with | [_], _ => rfl
theorem bk_flow_for_10 : BnK st_flow_for "flow_for" pa_flow_for ["purse", "town"] [1, 0] := fun _ _ _ _ _ _ ws hl => match ws, hl with | [_, _], _ => rfl
theorem bk_ends_10 : BnK st_ends "ends" pa_ends ["flow", "town"] [1, 0] := fun _ _ _ _ _ _ ws hl => match ws, hl with | [_, _], _ => rfl
theorem bk_cut_flow_10 : BnK st_cut_flow "cut_flow" pa_cut_flow ["script", "town"] [1, 0] := fun _ _ _ _ _ _ ws hl => match ws, hl with | [_, _], _ => rfl
theorem bk_flow_error_10 : BnK st_flow_error "flow_error" pa_flow_error ["value", "town"] [1, 0] := fun _ _ _ _ _ _ ws hl => match ws, hl with | [_, _], _ => rfl
theorem bk_flow_for_error_210 : BnK st_flow_for_error "flow_for_error" pa_flow_for_error ["value", "purse", "town"] [2, 1, 0] := fun _ _ _ _ _ _ ws hl => match ws, hl with | [_, _, _], _ => rfl
theorem D_is_number (s : SaysL Pg fa fn xs K) (X : K.In h) (G : h.Ns mainGlobals mg) : Dfn Pg w K mg base (cn K) Tx 1 120 "is_number" st_is_number pa_is_number := dfn_mk (k := 0) s.d X G (by simp [fn]) (by simp [fa]) sc_is_number rfl rfl (wp_is_number ops) fun f cdv A outer s1 H vs E hg hr => ck_is_number (bx_def (k := 0) ⟨rfl, bl s X G, (fun _ h => nomatch h), (fun _ h => nomatch h), (fun _ h => nomatch h)⟩ sc_is_number hg hr) ops
theorem D_is_within (s : SaysL Pg fa fn xs K) (X : K.In h) (G : h.Ns mainGlobals mg) : Dfn Pg w K mg base (cn K) Tx 2 121 "is_within" st_is_within pa_is_within := dfn_mk (k := 1) s.d X G (by simp [fn]) (by simp [fa]) sc_is_within rfl rfl (wp_is_within ⟨rfl, rfl⟩) fun f cdv A outer s1 H vs E hg hr => ck_is_within (bx_def (k := 1) ⟨rfl, bl s X G, (List.forall_mem_cons.mpr ⟨(D_is_number s X G).cal (by decide) bp_is_number, (fun _ h => nomatch h)⟩), (fun _ h => nomatch h), (fun _ h => nomatch h)⟩ sc_is_within hg hr)
theorem D_reached (s : SaysL Pg fa fn xs K) (X : K.In h) (G : h.Ns mainGlobals mg) : Dfn Pg w K mg base (cn K) Tx 1 100 "reached" st_reached pa_reached := dfn_mk (k := 0) s.d X G (by simp [fn]) (by simp [fa]) sc_reached rfl rfl (wp_reached ops.toOps) fun f cdv A outer s1 H vs E hg hr => ck_reached (bx_def (k := 0) ⟨rfl, bl s X G, (fun _ h => nomatch h), (fun _ h => nomatch h), (fun _ h => nomatch h)⟩ sc_reached hg hr) ops
theorem D_money (s : SaysL Pg fa fn xs K) (X : K.In h) (G : h.Ns mainGlobals mg) : Dfn Pg w K mg base (cn K) Tx 1 101 "money" st_money pa_money := dfn_mk (k := 0) s.d X G (by simp [fn]) (by simp [fa]) sc_money rfl rfl (wp_money ops.toOps) fun f cdv A outer s1 H vs E hg hr => ck_money (bx_def (k := 0) ⟨rfl, bl s X G, (fun _ h => nomatch h), (fun _ h => nomatch h), (fun _ h => nomatch h)⟩ sc_money hg hr) ops
theorem D_is_row (s : SaysL Pg fa fn xs K) (X : K.In h) (G : h.Ns mainGlobals mg) : Dfn Pg w K mg base (cn K) Tx 1 122 "is_row" st_is_row pa_is_row := dfn_mk (k := 0) s.d X G (by simp [fn]) (by simp [fa]) sc_is_row rfl rfl (wp_is_row ops) fun f cdv A outer s1 H vs E hg hr => ck_is_row (bx_def (k := 0) ⟨rfl, bl s X G, (fun _ h => nomatch h), (fun _ h => nomatch h), (fun _ h => nomatch h)⟩ sc_is_row hg hr) ops
theorem D_flow_error (s : SaysL Pg fa fn xs K) (X : K.In h) (G : h.Ns mainGlobals mg) : Dfn Pg w K mg base (cn K) Tx 3 123 "flow_error" st_flow_error pa_flow_error := dfn_mk (k := 2) s.d X G (by simp [fn]) (by simp [fa]) sc_flow_error rfl rfl (wp_flow_error rfl ⟨rfl, rfl⟩ ⟨rfl, rfl⟩) fun f cdv A outer s1 H vs E hg hr => ck_flow_error (bx_def (k := 2) ⟨rfl, bl s X G, (List.forall_mem_cons.mpr ⟨(D_is_row s X G).cal (by decide) bp_is_row, (List.forall_mem_cons.mpr ⟨(D_is_within s X G).cal (by decide) bp_is_within, (fun _ h => nomatch h)⟩)⟩), (fun _ h => nomatch h), (List.forall_mem_cons.mpr ⟨gc_int (i := 1000) s.d X G (by simp [fa]) rfl, (fun _ h => nomatch h)⟩)⟩ sc_flow_error hg hr)
theorem D_ends (s : SaysL Pg fa fn xs K) (X : K.In h) (G : h.Ns mainGlobals mg) : Dfn Pg w K mg base (cn K) Tx 1 102 "ends" st_ends pa_ends := dfn_mk (k := 0) s.d X G (by simp [fn]) (by simp [fa]) sc_ends rfl rfl (wp_ends) fun f cdv A outer s1 H vs E hg hr => ck_ends (bx_def (k := 0) ⟨rfl, bl s X G, (fun _ h => nomatch h), (fun _ h => nomatch h), (fun _ h => nomatch h)⟩ sc_ends hg hr)
theorem D_cut_flow (s : SaysL Pg fa fn xs K) (X : K.In h) (G : h.Ns mainGlobals mg) : Dfn Pg w K mg base (cn K) Tx 1 103 "cut_flow" st_cut_flow pa_cut_flow := dfn_mk (k := 0) s.d X G (by simp [fn]) (by simp [fa]) sc_cut_flow rfl rfl (wp_cut_flow) fun f cdv A outer s1 H vs E hg hr => ck_cut_flow (bx_def (k := 0) ⟨rfl, bl s X G, (fun _ h => nomatch h), (fun _ h => nomatch h), (fun _ h => nomatch h)⟩ sc_cut_flow hg hr)
theorem D_tree_places (s : SaysL Pg fa fn xs K) (X : K.In h) (G : h.Ns mainGlobals mg) : Dfn Pg w K mg base (cn K) Tx 2 104 "tree_places" st_tree_places pa_tree_places := dfn_mk (k := 1) s.d X G (by simp [fn]) (by simp [fa]) sc_tree_places rfl rfl (wp_tree_places ⟨rfl, rfl⟩) fun f cdv A outer s1 H vs E hg hr => ck_tree_places (bx_def (k := 1) ⟨rfl, bl s X G, (List.forall_mem_cons.mpr ⟨(D_reached s X G).cal (by decide) bp_reached, (fun _ h => nomatch h)⟩), (fun _ h => nomatch h), (fun _ h => nomatch h)⟩ sc_tree_places hg hr)
theorem D_flow_for (s : SaysL Pg fa fn xs K) (X : K.In h) (G : h.Ns mainGlobals mg) : Dfn Pg w K mg base (cn K) Tx 3 105 "flow_for" st_flow_for pa_flow_for := dfn_mk (k := 2) s.d X G (by simp [fn]) (by simp [fa]) sc_flow_for rfl rfl (wp_flow_for ops.toOps ⟨rfl, rfl⟩ ⟨rfl, rfl⟩ ⟨rfl, rfl⟩) fun f cdv A outer s1 H vs E hg hr => ck_flow_for (bx_def (k := 2) ⟨rfl, bl s X G, (List.forall_mem_cons.mpr ⟨(D_money s X G).cal (by decide) bp_money, (List.forall_mem_cons.mpr ⟨(D_tree_places s X G).cal (by decide) bp_tree_places, (List.forall_mem_cons.mpr ⟨(D_reached s X G).cal (by decide) bp_reached, (fun _ h => nomatch h)⟩)⟩)⟩), (fun _ h => nomatch h), (fun _ h => nomatch h)⟩ sc_flow_for hg hr) ops (ep s X G)
theorem D_flow_for_error (s : SaysL Pg fa fn xs K) (X : K.In h) (G : h.Ns mainGlobals mg) : Dfn Pg w K mg base (cn K) Tx 2 124 "flow_for_error" st_flow_for_error pa_flow_for_error := dfn_mk (k := 1) s.d X G (by simp [fn]) (by simp [fa]) sc_flow_for_error rfl rfl (wp_flow_for_error ⟨rfl, rfl⟩ ⟨rfl, rfl⟩ ⟨rfl, rfl⟩) fun f cdv A outer s1 H vs E hg hr => ck_flow_for_error (bx_def (k := 1) ⟨rfl, bl s X G, (List.forall_mem_cons.mpr ⟨(D_is_row s X G).cal (by decide) bp_is_row, (List.forall_mem_cons.mpr ⟨(D_is_number s X G).cal (by decide) bp_is_number, (List.forall_mem_cons.mpr ⟨(D_ends s X G).cal (by decide) bp_ends, (fun _ h => nomatch h)⟩)⟩)⟩), (fun _ h => nomatch h), (fun _ h => nomatch h)⟩ sc_flow_for_error hg hr)
theorem D_law_deck (s : SaysL Pg fa fn xs K) (X : K.In h) (G : h.Ns mainGlobals mg) : Dfn Pg w K mg base (cn K) Tx 1 110 "_law_deck" st_law_deck pa_law_deck := dfn_mk (k := 0) s.d X G (by simp [fn]) (by simp [fa]) sc_law_deck rfl rfl (wp_law_deck ops.toOps) fun f cdv A outer s1 H vs E hg hr => ck_law_deck (bx_def (k := 0) ⟨rfl, bl s X G, (fun _ h => nomatch h), (fun _ h => nomatch h), (fun _ h => nomatch h)⟩ sc_law_deck hg hr) ops
theorem D_law_draw {m : Nat} (s : SaysL Pg fa fn xs K) (X : K.In h) (G : h.Ns mainGlobals mg) : Dfn Pg w K mg base (cn K) (Tm m) 1 111 "_law_draw" st_law_draw pa_law_draw := dfn_mk (k := 0) s.d X G (by simp [fn]) (by simp [fa]) sc_law_draw rfl rfl (wp_law_draw ops.toOps) fun f cdv A outer s1 H vs E hg hr => ck_law_draw (bx_def (k := 0) ⟨rfl, bl s X G, (fun _ h => nomatch h), (fun _ h => nomatch h), (fun _ h => nomatch h)⟩ sc_law_draw hg hr) ops
theorem D_law_pick {m : Nat} (s : SaysL Pg fa fn xs K) (X : K.In h) (G : h.Ns mainGlobals mg) : Dfn Pg w K mg base (cn K) (Tm m) 2 112 "_law_pick" st_law_pick pa_law_pick := dfn_mk (k := 1) s.d X G (by simp [fn]) (by simp [fa]) sc_law_pick rfl rfl (wp_law_pick ⟨rfl, rfl⟩) fun f cdv A outer s1 H vs E hg hr => ck_law_pick (bx_def (k := 1) ⟨rfl, bl s X G, (List.forall_mem_cons.mpr ⟨(D_law_draw s X G).cal (by decide) bp_law_draw, (fun _ h => nomatch h)⟩), (fun _ h => nomatch h), (fun _ h => nomatch h)⟩ sc_law_pick hg hr)
theorem Dm_law_any (s : SaysL Pg fa fn xs K) (X : K.In h) (G : h.Ns mainGlobals mg) : ∀ m, m ≤ 5 → Dfn Pg w K mg base (cn K) (Tm m) (3 + m) 125 "_law_any" st_law_any pa_law_any
  | 0, _ => dfn_no s.d X G (by simp [fn]) (by simp [fa]) rfl (fun _ _ _ ⟨_, _, _, _, h, _⟩ => Nat.not_lt_zero _ h)
  | m + 1, hm => dfn_mk2 (T := Tm m) (k := 3 + m) s.d X G (by simp [fn]) (by simp [fa]) sc_law_any rfl rfl (wp_law_any (by omega) ⟨rfl, rfl⟩ ⟨rfl, rfl⟩ ⟨rfl, rfl⟩) fun f cdv A outer s1 H vs E hg hr => ck_law_any (bx_def (k := 3 + m) ⟨rfl, bl s X G, (List.forall_mem_cons.mpr ⟨(D_law_draw s X G).cal (by omega) bp_law_draw, (List.forall_mem_cons.mpr ⟨(D_law_pick s X G).cal (by omega) bp_law_pick, (List.forall_mem_cons.mpr ⟨(Dm_law_any s X G m (by omega)).cal (Nat.le_refl _) bp_law_any, (fun _ h => nomatch h)⟩)⟩)⟩), (fun _ h => nomatch h), (fun _ h => nomatch h)⟩ sc_law_any hg hr)
theorem D_law_any (s : SaysL Pg fa fn xs K) (X : K.In h) (G : h.Ns mainGlobals mg) : Dfn Pg w K mg base (cn K) Tx 8 125 "_law_any" st_law_any pa_law_any := Dm_law_any s X G 5 (Nat.le_refl _)
theorem D_law_town (s : SaysL Pg fa fn xs K) (X : K.In h) (G : h.Ns mainGlobals mg) : Dfn Pg w K mg base (cn K) Tx 2 113 "_law_town" st_law_town pa_law_town := dfn_mk (k := 1) s.d X G (by simp [fn]) (by simp [fa]) sc_law_town rfl rfl (wp_law_town ⟨rfl, rfl⟩) fun f cdv A outer s1 H vs E hg hr => ck_law_town (bx_def (k := 1) ⟨rfl, bl s X G, (List.forall_mem_cons.mpr ⟨(D_law_draw s X G).cal (by decide) bp_law_draw, (fun _ h => nomatch h)⟩), (fun _ h => nomatch h), (fun _ h => nomatch h)⟩ sc_law_town hg hr)
theorem D_law_ends (s : SaysL Pg fa fn xs K) (X : K.In h) (G : h.Ns mainGlobals mg) : Dfn Pg w K mg base (cn K) Tx 1 126 "_law_ends" st_law_ends pa_law_ends := dfn_mk (k := 0) s.d X G (by simp [fn]) (by simp [fa]) sc_law_ends rfl rfl (wp_law_ends ops) fun f cdv A outer s1 H vs E hg hr => ck_law_ends (bx_def (k := 0) ⟨rfl, bl s X G, (fun _ h => nomatch h), (fun _ h => nomatch h), (fun _ h => nomatch h)⟩ sc_law_ends hg hr) ops
theorem D_law_cut (s : SaysL Pg fa fn xs K) (X : K.In h) (G : h.Ns mainGlobals mg) : Dfn Pg w K mg base (cn K) Tx 1 127 "_law_cut" st_law_cut pa_law_cut := dfn_mk (k := 0) s.d X G (by simp [fn]) (by simp [fa]) sc_law_cut rfl rfl (wp_law_cut) fun f cdv A outer s1 H vs E hg hr => ck_law_cut (bx_def (k := 0) ⟨rfl, bl s X G, (fun _ h => nomatch h), (fun _ h => nomatch h), (fun _ h => nomatch h)⟩ sc_law_cut hg hr)
theorem D_law_flow (s : SaysL Pg fa fn xs K) (X : K.In h) (G : h.Ns mainGlobals mg) : Dfn Pg w K mg base (cn K) Tx 3 128 "_law_flow" st_law_flow pa_law_flow := dfn_mk (k := 2) s.d X G (by simp [fn]) (by simp [fa]) sc_law_flow rfl rfl (wp_law_flow ⟨rfl, rfl⟩ ⟨rfl, rfl⟩) fun f cdv A outer s1 H vs E hg hr => ck_law_flow (bx_def (k := 2) ⟨rfl, bl s X G, (List.forall_mem_cons.mpr ⟨(D_law_pick s X G).cal (by decide) bp_law_pick, (List.forall_mem_cons.mpr ⟨(D_law_draw s X G).cal (by decide) bp_law_draw, (fun _ h => nomatch h)⟩)⟩), (fun _ h => nomatch h), (fun _ h => nomatch h)⟩ sc_law_flow hg hr)
theorem D_law_flow_due (s : SaysL Pg fa fn xs K) (X : K.In h) (G : h.Ns mainGlobals mg) : Dfn Pg w K mg base (cn K) Tx 1 129 "_law_flow_due" st_law_flow_due pa_law_flow_due := dfn_mk (k := 0) s.d X G (by simp [fn]) (by simp [fa]) sc_law_flow_due rfl rfl (wp_law_flow_due ops) fun f cdv A outer s1 H vs E hg hr => ck_law_flow_due (bx_def (k := 0) ⟨rfl, bl s X G, (fun _ h => nomatch h), (fun _ h => nomatch h), (fun _ h => nomatch h)⟩ sc_law_flow_due hg hr) ops
theorem D_law_for_due (s : SaysL Pg fa fn xs K) (X : K.In h) (G : h.Ns mainGlobals mg) : Dfn Pg w K mg base (cn K) Tx 2 130 "_law_for_due" st_law_for_due pa_law_for_due := dfn_mk (k := 1) s.d X G (by simp [fn]) (by simp [fa]) sc_law_for_due rfl rfl (wp_law_for_due ops ⟨rfl, rfl⟩) fun f cdv A outer s1 H vs E hg hr => ck_law_for_due (bx_def (k := 1) ⟨rfl, bl s X G, (List.forall_mem_cons.mpr ⟨(D_law_ends s X G).cal (by decide) bp_law_ends, (fun _ h => nomatch h)⟩), (fun _ h => nomatch h), (fun _ h => nomatch h)⟩ sc_law_for_due hg hr) ops
theorem D_law_bent (s : SaysL Pg fa fn xs K) (X : K.In h) (G : h.Ns mainGlobals mg) : Dfn Pg w K mg base (cn K) Tx 9 131 "_law_bent" st_law_bent pa_law_bent := dfn_mk (k := 8) s.d X G (by simp [fn]) (by simp [fa]) sc_law_bent rfl rfl (wp_law_bent (by decide) ⟨rfl, rfl⟩ ⟨rfl, rfl⟩ ⟨rfl, rfl⟩) fun f cdv A outer s1 H vs E hg hr => ck_law_bent (bx_def (k := 8) ⟨rfl, bl s X G, (List.forall_mem_cons.mpr ⟨(D_law_draw s X G).cal (by decide) bp_law_draw, (List.forall_mem_cons.mpr ⟨(D_law_any s X G).cal (by decide) bp_law_any, (List.forall_mem_cons.mpr ⟨(D_law_pick s X G).cal (by decide) bp_law_pick, (fun _ h => nomatch h)⟩)⟩)⟩), (fun _ h => nomatch h), (fun _ h => nomatch h)⟩ sc_law_bent hg hr)
theorem D_law_told (s : SaysL Pg fa fn xs K) (X : K.In h) (G : h.Ns mainGlobals mg) : Dfn Pg w K mg base (cn K) Tx 4 132 "_law_told" st_law_told pa_law_told := dfn_mk (k := 3) s.d X G (by simp [fn]) (by simp [fa]) sc_law_told rfl rfl (wp_law_told ⟨rfl, rfl⟩ rfl) fun f cdv A outer s1 H vs E hg hr => ck_law_told (bx_def (k := 3) ⟨rfl, bl s X G, (List.forall_mem_cons.mpr ⟨(D_flow_for s X G).cal (by decide) bp_flow_for, (fun _ h => nomatch h)⟩), (List.forall_mem_cons.mpr ⟨(D_flow_for s X G).calK (by decide) bk_flow_for_10, (fun _ h => nomatch h)⟩), (fun _ h => nomatch h)⟩ sc_law_told hg hr) (em s X G) rfl rfl rfl
theorem D_law_is_town_right (s : SaysL Pg fa fn xs K) (X : K.In h) (G : h.Ns mainGlobals mg) : Dfn Pg w K mg base (cn K) Tx 10 133 "_law_is_town_right" st_law_is_town_right pa_law_is_town_right := dfn_mk (k := 9) s.d X G (by simp [fn]) (by simp [fa]) sc_law_is_town_right rfl rfl (wp_law_is_town_right ops (by decide) ⟨rfl, rfl⟩ ⟨rfl, rfl⟩ ⟨rfl, rfl⟩ ⟨rfl, rfl⟩ ⟨rfl, rfl⟩ ⟨rfl, rfl⟩ ⟨rfl, rfl⟩ ⟨rfl, rfl⟩ ⟨rfl, rfl⟩ ⟨rfl, rfl⟩ ⟨rfl, rfl⟩ ⟨rfl, rfl⟩ ⟨rfl, rfl⟩ ⟨rfl, rfl⟩) fun f cdv A outer s1 H vs E hg hr => ck_law_is_town_right (bx_def (k := 9) ⟨rfl, bl s X G, (List.forall_mem_cons.mpr ⟨(D_law_flow s X G).cal (by decide) bp_law_flow, (List.forall_mem_cons.mpr ⟨(D_law_draw s X G).cal (by decide) bp_law_draw, (List.forall_mem_cons.mpr ⟨(D_law_ends s X G).cal (by decide) bp_law_ends, (List.forall_mem_cons.mpr ⟨(D_ends s X G).cal (by decide) bp_ends, (List.forall_mem_cons.mpr ⟨(D_cut_flow s X G).cal (by decide) bp_cut_flow, (List.forall_mem_cons.mpr ⟨(D_law_cut s X G).cal (by decide) bp_law_cut, (List.forall_mem_cons.mpr ⟨(D_law_told s X G).cal (by decide) bp_law_told, (List.forall_mem_cons.mpr ⟨(D_law_for_due s X G).cal (by decide) bp_law_for_due, (List.forall_mem_cons.mpr ⟨(D_flow_for_error s X G).cal (by decide) bp_flow_for_error, (List.forall_mem_cons.mpr ⟨(D_law_pick s X G).cal (by decide) bp_law_pick, (List.forall_mem_cons.mpr ⟨(D_law_bent s X G).cal (by decide) bp_law_bent, (List.forall_mem_cons.mpr ⟨(D_law_any s X G).cal (by decide) bp_law_any, (List.forall_mem_cons.mpr ⟨(D_law_flow_due s X G).cal (by decide) bp_law_flow_due, (List.forall_mem_cons.mpr ⟨(D_flow_error s X G).cal (by decide) bp_flow_error, (fun _ h => nomatch h)⟩)⟩)⟩)⟩)⟩)⟩)⟩)⟩)⟩)⟩)⟩)⟩)⟩)⟩), (List.forall_mem_cons.mpr ⟨(D_ends s X G).calK (by decide) bk_ends_10, (List.forall_mem_cons.mpr ⟨(D_cut_flow s X G).calK (by decide) bk_cut_flow_10, (List.forall_mem_cons.mpr ⟨(D_flow_error s X G).calK (by decide) bk_flow_error_10, (List.forall_mem_cons.mpr ⟨(D_flow_for_error s X G).calK (by decide) bk_flow_for_error_210, (fun _ h => nomatch h)⟩)⟩)⟩)⟩), (fun _ h => nomatch h)⟩ sc_law_is_town_right hg hr) ops
theorem D_law (s : SaysL Pg fa fn xs K) (X : K.In h) (G : h.Ns mainGlobals mg) : Dfn Pg w K mg base (cn K) Tx 11 119 "law" st_law pa_law := dfn_mk (k := 10) s.d X G (by simp [fn]) (by simp [fa]) sc_law rfl rfl (wp_law ⟨rfl, rfl⟩ ⟨rfl, rfl⟩ ⟨rfl, rfl⟩ ⟨rfl, rfl⟩) fun f cdv A outer s1 H vs E hg hr => ck_law (bx_def (k := 10) ⟨rfl, bl s X G, (List.forall_mem_cons.mpr ⟨(D_law_deck s X G).cal (by decide) bp_law_deck, (List.forall_mem_cons.mpr ⟨(D_law_is_town_right s X G).cal (by decide) bp_law_is_town_right, (List.forall_mem_cons.mpr ⟨(D_law_town s X G).cal (by decide) bp_law_town, (List.forall_mem_cons.mpr ⟨(D_law_pick s X G).cal (by decide) bp_law_pick, (fun _ h => nomatch h)⟩)⟩)⟩)⟩), (fun _ h => nomatch h), (fun _ h => nomatch h)⟩ sc_law hg hr)
end
end K79
end
section
open PySem PySem.Spec L2 DL
set_option Elab.async false
set_option linter.all false
set_option maxRecDepth 100000
set_option maxHeartbeats 3900000
namespace K79
end K79
open PySem PySem.W PySem.Calls PyProof.Rows  -- so
theorem PySem.Challenge.cw_townroads_k79_whole_flows_holds : PySem.Challenge.rw_townroads_k79_whole_flows.Holds := by
  w_on; o_law
  refine HandSHeadRun.head_any (r := K79.Rw) (q := view K79.Rw.prog [32]) (H := K79.hk) (ob := K79.ob) (M := 2500) (loose := K79.loose) (d := HandSHeadRun.topDef K79.Rw.prog 32) (kwd := []) K79.ob_eq (by kernel_rfl) (fun s => by kernel_rfl) K79.run (by kernel_rfl) (by kernel_rfl) (by kernel_rfl) (by rfl) (by first | assumption | decide +kernel) (by decide +kernel) ⟨rfl, rfl, rfl, rfl, rfl, by decide +kernel⟩ ?hw ?hc
  case hw => w_witness2
  case hc =>
    refine DL.walk_g (l := PySem.Challenge.rw_townroads_k79_whole_flows) (n := 63) (k := 11) (x := "script") rfl (by decide) (by kernel_rfl) ⟨rfl, by decide, by decide⟩ ?F
    intro w mg fad h Y G hmg0
    obtain ⟨K, KX, c⟩ := Y
    have hmg : mg ("law" : PySem.Str) = some (.ref fad) := by
      have e : (HandSHeadRun.topDef K79.Rw.prog 32).name = ("law" : PySem.Str) := by kernel_rfl
      rw [← e]
      exact hmg0
    obtain ⟨fd, F⟩ := c.d.defs (d := DL.dOf "law" K79.st_law) (by simp [K79.fn])
    have F' : L2.Fun K "law" "law" K79.st_law (He.ga K "law") fd := DL.fun_of F
    have e := hmg.symm.trans (He.glo_ok KX G (c.d.facts (f := .glo "law") (by simp [K79.fa])))
    cases e
    refine ⟨K, fd, DL.spC (K79.cn K) K79.lawC 1, KX, fun s u => ?_, fun H a ns hl _ hS => DL.law_sp hS ⟨ns, rfl, hl, rfl⟩, fun base hb hn => ?_⟩
    · obtain ⟨oc, od, kV, doc, pm, an, cdv, ct, osl, rfl, _, _⟩ := F'.ex
      exact .of_eq rfl
    · obtain ⟨fd2, D, _, F2⟩ := (K79.D_law (w := w) (base := base) c KX G).ex
      have e2 : fd2 = fd := DL.fun_one F' F2
      subst e2
      exact D
end
