import PyProof.Rows.All
import Wide.All
import OpenK.AllK
import Wide.FinOn
import HandS.ForMost
import HandS.Evl
import HandS.Lambda
import HandS.IsInst
import HandS.TupAny
import HandS.Wide
import HandS.Property
import HandS.Defaults
import HandS.Style
import HandS.Set
import HandS.SetFor
import HandS.SetTxt0
import HandS.TupSets
import PyProof.Rows.SortShellAny
import PyProof.CollectStr
import HandS.SortKw
import HandS.List
import KE.SortKeyHeap
import HandS.Text
import HandS.SlotsOwn
import OpenK.KMake
import PyProof.InstEq
import HandS.Iter
import KE.GoesMore
import PyProof.EnumMake
import HandS.Dict
import PyProof.ReprRoads
import PyProof.ListStr
import HandS.Words
import HandS.EndTab
import HandS.Replace
import HandS.TupLen
import HandS.DictComp
import PyProof.DictFindH
import HandS.Conv
import KE.KDictCopyH
import HandS.Star
import HandS.Deep
import HandS.Flow
import PyProof.CallFns
import PySem.Challenge.RW_meanways_k07_whole_closures_and_tables
set_option Elab.async false
set_option linter.all false
section sec_FD1
set_option maxRecDepth 100000
set_option maxHeartbeats 5000000
/-! FD1: plain data D, how the abstract heap holds it (Rep), the state of a running def as plain data (SR), the judgements FE, FT, FA, FS. -/
namespace FD
open PySem L2

structure Ct where
  K : PySem.W.Frag
  mg : Str → Option Value
/-- where the draws' dict, its list of wide numbers and its list of cells stand -/
structure Dr where
  at_ : Option (Addr × Addr × Addr)
  cl : List Int
def Dr.da (d : Dr) : Option Addr := d.at_.map (·.1)
/-- the tables of the code objects of the defs that make lambdas -/
class Tabl where
  T : List (Addr × Str)
variable [Tabl]
def Dr.ds (d : Dr) : List Addr := match d.at_ with
  | some t => [t.1, t.2.1, t.2.2]
  | none => []
def Dr.as (d : Dr) : List Addr := d.ds ++ Tabl.T.map (·.1)
theorem Dr.tab {d : Dr} {p : Addr × Str} (h : p ∈ Tabl.T) : p.1 ∈ d.as := List.mem_append_right _ (List.mem_map.mpr ⟨p, h, rfl⟩)
theorem Dr.mem1 {d : Dr} {t : Addr × Addr × Addr} (h : d.at_ = some t) : t.1 ∈ d.as := List.mem_append_left _ (by simp [Dr.ds, h])
theorem Dr.mem2 {d : Dr} {t : Addr × Addr × Addr} (h : d.at_ = some t) : t.2.1 ∈ d.as := List.mem_append_left _ (by simp [Dr.ds, h])
theorem Dr.mem3 {d : Dr} {t : Addr × Addr × Addr} (h : d.at_ = some t) : t.2.2 ∈ d.as := List.mem_append_left _ (by simp [Dr.ds, h])

inductive D where
  | non | bl (b : Bool) | int (i : Int) | str (x : Str) | ty (n : String) | draw
  | tup (xs : List D) | ktup (xs : List D) | lst (xs : List D) | dic (kvs : List (D × D)) | dit (kvs : List (D × D)) | fdit (kvs : List (D × D)) | ins (c : Str) (fs : List (Str × D)) | scr (ns : List Int)
  deriving Inhabited

def kD : Key → D
  | .inl i => .int i
  | .inr x => .str x

/-- all that F tracks, G tracks too -/
def Ex (F G : Hp) : Prop := ∀ b u, F b = some u → G b = some u
theorem Ex.refl (F : Hp) : Ex F F := fun _ _ => id
theorem Ex.trans {F G J : Hp} (p : Ex F G) (q : Ex G J) : Ex F J := fun b u z => q b u (p b u z)
theorem Ex.new {F : Hp} {p : Addr} {o : HO} (n : F p = none) : Ex F (upd F p o) := fun b u z => (upd_ne (ne_of_none z n)).trans z
theorem Ex.rd {H H' : Hp} {a : Addr} {u : HO} (e : Ex H H') (h : Rd H a u) : Rd H' a u := by
  rcases h with h | ⟨o, h⟩
  · exact Or.inl (e a _ h)
  · exact Or.inr ⟨o, e a _ h⟩
theorem Ex.sl {K : PySem.W.Frag} {H H' : Hp} {a : Addr} {xs : List V} (e : Ex H H') (h : SqL K H a xs) : SqL K H' a xs := by
  rcases h with h | h
  · exact Or.inl (e.rd h)
  · exact Or.inr h
theorem Ex.st {K : PySem.W.Frag} {H H' : Hp} {a : Addr} {xs : List V} (e : Ex H H') (h : SqT K H a xs) : SqT K H' a xs := by
  rcases h with h | h
  · exact Or.inl (e.rd h)
  · exact Or.inr h
theorem Ex.free {H H' : Hp} {p : Addr} (e : Ex H H') (h : H' p = none) : H p = none := by
  cases h1 : H p with
  | none => rfl
  | some o =>
    rw [e p o h1] at h
    cases h

mutual
inductive Rep (c : Ct) (da : Option Addr) (G : Hp) : V → D → Prop
  | non : Rep c da G .non .non
  | bl (b : Bool) : Rep c da G (.bl b) (.bl b)
  | int (i : Int) : Rep c da G (.int i) (.int i)
  | str (x : Str) : Rep c da G (.str x) (.str x)
  | ty (n : String) : Rep c da G (.ty n) (.ty n)
  | draw {a : Addr} : da = some a → Rep c da G (.ref a) .draw
  | tup {a : Addr} {xs : List V} {ds : List D} : G a = some (.tup xs) → RepAll c da G xs ds → Rep c da G (.ref a) (.tup ds)
  | ktup {a : Addr} {xs : List V} {ds : List D} : SqT c.K G a xs → RepAll c da G xs ds → Rep c da G (.ref a) (.ktup ds)
  | lst {a : Addr} {xs : List V} {ds : List D} : G a = some (.lst xs) → RepAll c da G xs ds → Rep c da G (.ref a) (.lst ds)
  | scr {a : Addr} {ns : List Int} : SqL c.K G a (ns.map V.int) → Rep c da G (.ref a) (.scr ns)
  | dK {a : Addr} {kvs : List (Key × V)} {ps : List (D × D)} : G a = some (.dK kvs) → RepKV c da G kvs ps → Rep c da G (.ref a) (.dic ps)
  | dT {a : Addr} {kvs : List (List Key × V)} {ps : List (D × D)} : G a = some (.dT kvs) → RepKT c da G kvs ps → Rep c da G (.ref a) (.dit ps)
  | fdT {a : Addr} {ob : Obj} {kvs : List (List Key × V)} {ps : List (D × D)} : G a = some (.frz ob (.dT kvs)) → RepKT c da G kvs ps → Rep c da G (.ref a) (.fdit ps)
  | ins {a C dx : Addr} {fs : List (Str × V)} {cn : Str} {gs : List (Str × D)} : G a = some (.ins C dx fs) → c.mg cn = some (.ref C) → RepF c da G fs gs → Rep c da G (.ref a) (.ins cn gs)
inductive RepAll (c : Ct) (da : Option Addr) (G : Hp) : List V → List D → Prop
  | nil : RepAll c da G [] []
  | cons {v : V} {vs : List V} {d : D} {ds : List D} : Rep c da G v d → RepAll c da G vs ds → RepAll c da G (v :: vs) (d :: ds)
inductive RepKV (c : Ct) (da : Option Addr) (G : Hp) : List (Key × V) → List (D × D) → Prop
  | nil : RepKV c da G [] []
  | cons {k : Key} {v : V} {vs : List (Key × V)} {d : D} {ds : List (D × D)} : Rep c da G v d → RepKV c da G vs ds → RepKV c da G ((k, v) :: vs) ((kD k, d) :: ds)
inductive RepKT (c : Ct) (da : Option Addr) (G : Hp) : List (List Key × V) → List (D × D) → Prop
  | nil : RepKT c da G [] []
  | cons {k : List Key} {v : V} {vs : List (List Key × V)} {d : D} {ds : List (D × D)} : Rep c da G v d → RepKT c da G vs ds → RepKT c da G ((k, v) :: vs) ((.tup (k.map kD), d) :: ds)
inductive RepF (c : Ct) (da : Option Addr) (G : Hp) : List (Str × V) → List (Str × D) → Prop
  | nil : RepF c da G [] []
  | cons {k : Str} {v : V} {vs : List (Str × V)} {d : D} {ds : List (Str × D)} : Rep c da G v d → RepF c da G vs ds → RepF c da G ((k, v) :: vs) ((k, d) :: ds)
end

section
variable {c : Ct} {da : Option Addr} {G G' : Hp}
mutual
theorem Rep.mono (e : Ex G G') : ∀ {v : V} {d : D}, Rep c da G v d → Rep c da G' v d
  | _, _, .non => .non
  | _, _, .bl b => .bl b
  | _, _, .int i => .int i
  | _, _, .str x => .str x
  | _, _, .ty n => .ty n
  | _, _, .draw h => .draw h
  | _, _, .tup h r => .tup (e _ _ h) (RepAll.mono e r)
  | _, _, .ktup h r => .ktup (e.st h) (RepAll.mono e r)
  | _, _, .lst h r => .lst (e _ _ h) (RepAll.mono e r)
  | _, _, .scr h => .scr (e.sl h)
  | _, _, .dK h r => .dK (e _ _ h) (RepKV.mono e r)
  | _, _, .dT h r => .dT (e _ _ h) (RepKT.mono e r)
  | _, _, .fdT h r => .fdT (e _ _ h) (RepKT.mono e r)
  | _, _, .ins h m r => .ins (e _ _ h) m (RepF.mono e r)
theorem RepAll.mono (e : Ex G G') : ∀ {v : List V} {d : List D}, RepAll c da G v d → RepAll c da G' v d
  | _, _, .nil => .nil
  | _, _, .cons h r => .cons (Rep.mono e h) (RepAll.mono e r)
theorem RepKV.mono (e : Ex G G') : ∀ {v : List (Key × V)} {d : List (D × D)}, RepKV c da G v d → RepKV c da G' v d
  | _, _, .nil => .nil
  | _, _, .cons h r => .cons (Rep.mono e h) (RepKV.mono e r)
theorem RepKT.mono (e : Ex G G') : ∀ {v : List (List Key × V)} {d : List (D × D)}, RepKT c da G v d → RepKT c da G' v d
  | _, _, .nil => .nil
  | _, _, .cons h r => .cons (Rep.mono e h) (RepKT.mono e r)
theorem RepF.mono (e : Ex G G') : ∀ {v : List (Str × V)} {d : List (Str × D)}, RepF c da G v d → RepF c da G' v d
  | _, _, .nil => .nil
  | _, _, .cons h r => .cons (Rep.mono e h) (RepF.mono e r)
end
theorem RepAll.length : ∀ {v : List V} {d : List D}, RepAll c da G v d → v.length = d.length
  | _, _, .nil => rfl
  | _, _, .cons _ r => by simp [RepAll.length r]
theorem RepAll.get : ∀ {vs : List V} {ds : List D}, RepAll c da G vs ds → ∀ {i : Nat} {d : D}, ds[i]? = some d → ∃ v, vs[i]? = some v ∧ Rep c da G v d
  | _, _, .nil, _, _, h => by simp at h
  | _, _, .cons h r, 0, d, e => by
    obtain rfl := Option.some.inj e
    exact ⟨_, rfl, h⟩
  | _, _, .cons h r, i + 1, d, e => by
    obtain ⟨v, h1, h2⟩ := RepAll.get r (i := i) (d := d) (by simpa using e)
    exact ⟨v, by simpa using h1, h2⟩
theorem RepAll.getV : ∀ {vs : List V} {ds : List D}, RepAll c da G vs ds → ∀ {i : Nat} {v : V}, vs[i]? = some v → ∃ d, ds[i]? = some d ∧ Rep c da G v d
  | _, _, .nil, _, _, h => by simp at h
  | _, _, .cons h r, 0, d, e => by
    obtain rfl := Option.some.inj e
    exact ⟨_, rfl, h⟩
  | _, _, .cons h r, i + 1, d, e => by
    obtain ⟨v, h1, h2⟩ := RepAll.getV r (i := i) (v := d) (by simpa using e)
    exact ⟨v, by simpa using h1, h2⟩
theorem RepAll.append : ∀ {vs us : List V} {ds es : List D}, RepAll c da G vs ds → RepAll c da G us es → RepAll c da G (vs ++ us) (ds ++ es)
  | _, _, _, _, .nil, r => r
  | _, _, _, _, .cons h q, r => .cons h (RepAll.append q r)
theorem RepAll.snoc {vs : List V} {ds : List D} {v : V} {d : D} (r : RepAll c da G vs ds) (h : Rep c da G v d) : RepAll c da G (vs ++ [v]) (ds ++ [d]) := r.append (.cons h .nil)
theorem RepAll.take : ∀ {vs : List V} {ds : List D} (n : Nat), RepAll c da G vs ds → RepAll c da G (vs.take n) (ds.take n)
  | _, _, 0, _ => .nil
  | _, _, _ + 1, .nil => .nil
  | _, _, n + 1, .cons h r => .cons h (RepAll.take n r)
theorem RepAll.drop : ∀ {vs : List V} {ds : List D} (n : Nat), RepAll c da G vs ds → RepAll c da G (vs.drop n) (ds.drop n)
  | _, _, 0, r => r
  | _, _, _ + 1, .nil => .nil
  | _, _, n + 1, .cons _ r => RepAll.drop n r
theorem RepAll.reverse : ∀ {vs : List V} {ds : List D}, RepAll c da G vs ds → RepAll c da G vs.reverse ds.reverse
  | _, _, .nil => .nil
  | _, _, .cons h r => by
    rw [List.reverse_cons, List.reverse_cons]
    exact (RepAll.reverse r).append (.cons h .nil)
theorem RepAll.set : ∀ {vs : List V} {ds : List D} {v : V} {d : D} (i : Nat), RepAll c da G vs ds → Rep c da G v d → RepAll c da G (vs.set i v) (ds.set i d)
  | _, _, _, _, _, .nil, _ => .nil
  | _, _, _, _, 0, .cons _ r, h => .cons h r
  | _, _, _, _, i + 1, .cons q r, h => .cons q (RepAll.set i r h)
theorem RepAll.eraseIdx : ∀ {vs : List V} {ds : List D} (i : Nat), RepAll c da G vs ds → RepAll c da G (vs.eraseIdx i) (ds.eraseIdx i)
  | _, _, _, .nil => .nil
  | _, _, 0, .cons _ r => r
  | _, _, i + 1, .cons q r => .cons q (RepAll.eraseIdx i r)
theorem RepAll.ints : ∀ (ns : List Int), RepAll c da G (ns.map V.int) (ns.map D.int)
  | [] => .nil
  | n :: r => .cons (.int n) (RepAll.ints r)
theorem RepAll.ints_inv : ∀ {vs : List V} {ns : List Int}, RepAll c da G vs (ns.map D.int) → vs = ns.map V.int
  | _, [], h => by cases h; rfl
  | _, n :: r, h => by
    cases h with
    | cons a b =>
      cases a
      rw [RepAll.ints_inv b]
      rfl
theorem RepAll.strs_inv : ∀ {vs : List V} {ns : List Str}, RepAll c da G vs (ns.map D.str) → vs = ns.map V.str
  | _, [], h => by cases h; rfl
  | _, n :: r, h => by
    cases h with
    | cons a b =>
      cases a
      rw [RepAll.strs_inv b]
      rfl
theorem RepAll.strs : ∀ (ns : List Str), RepAll c da G (ns.map V.str) (ns.map D.str)
  | [] => .nil
  | n :: r => .cons (.str n) (RepAll.strs r)
theorem RepAll.bls_inv : ∀ {vs : List V} {ns : List Bool}, RepAll c da G vs (ns.map D.bl) → vs = ns.map V.bl
  | _, [], h => by cases h; rfl
  | _, n :: r, h => by
    cases h with
    | cons a b =>
      cases a
      rw [RepAll.bls_inv b]
      rfl
theorem RepF.lookup : ∀ {fs : List (Str × V)} {gs : List (Str × D)}, RepF c da G fs gs → ∀ {f : Str} {d : D}, gs.lookup f = some d → ∃ v, fs.lookup f = some v ∧ Rep c da G v d
  | _, _, .nil, _, _, h => by cases h
  | _, _, .cons (k := k) h r, f, d, e => by
    rw [List.lookup_cons] at e
    rw [List.lookup_cons]
    cases q : f == k with
    | true =>
      rw [q] at e
      have e' := Option.some.inj e
      subst e'
      exact ⟨_, rfl, h⟩
    | false =>
      rw [q] at e
      exact RepF.lookup r e
theorem RepF.none : ∀ {fs : List (Str × V)} {gs : List (Str × D)}, RepF c da G fs gs → ∀ {f : Str}, gs.lookup f = none → fs.lookup f = none
  | _, _, .nil, _, h => rfl
  | _, _, .cons (k := k) h r, f, e => by
    rw [List.lookup_cons] at e
    rw [List.lookup_cons]
    cases q : f == k with
    | true =>
      rw [q] at e
      cases e
    | false =>
      rw [q] at e
      exact RepF.none r e
end

/-- the heap without what stands at O -/
def vis (O : List Addr) (H : Hp) : Hp := fun b => if b ∈ O then none else H b
theorem vis_in {O : List Addr} {H : Hp} {a : Addr} (h : a ∈ O) : vis O H a = none := if_pos h
theorem vis_out {O : List Addr} {H : Hp} {a : Addr} (h : a ∉ O) : vis O H a = H a := if_neg h
theorem vis_some {O : List Addr} {H : Hp} {a : Addr} {o : HO} (h : vis O H a = some o) : a ∉ O ∧ H a = some o := by
  by_cases q : a ∈ O
  · rw [vis_in q] at h
    cases h
  · rw [vis_out q] at h
    exact ⟨q, h⟩
theorem vis_ex {O : List Addr} {H : Hp} : Ex (vis O H) H := fun a o h => (vis_some h).2
theorem vis_mono {O : List Addr} {H H' : Hp} (e : Ex H H') : Ex (vis O H) (vis O H') := fun a o h => by
  obtain ⟨n, q⟩ := vis_some h
  rw [vis_out n]
  exact e a o q
theorem vis_cons {O : List Addr} {H : Hp} {a : Addr} : Ex (vis (a :: O) H) (vis O H) := fun b o h => by
  obtain ⟨n, q⟩ := vis_some h
  rw [vis_out fun z => n (List.mem_cons_of_mem _ z)]
  exact q
theorem vis_sub {O O' : List Addr} {H : Hp} (h : ∀ a ∈ O', a ∈ O) : Ex (vis O H) (vis O' H) := fun b o e => by
  obtain ⟨n, q⟩ := vis_some e
  rw [vis_out fun z => n (h b z)]
  exact q
/-- writing at a hidden place -/
theorem vis_upd {O : List Addr} {H : Hp} {a : Addr} {o : HO} (h : a ∈ O) : vis O (upd H a o) = vis O H := by
  funext b
  by_cases q : b ∈ O
  · rw [vis_in q, vis_in q]
  · rw [vis_out q, vis_out q, upd_ne fun z => q (by rw [z]; exact h)]

/-- a list or a dict, as it stands -/
def Obj (c : Ct) (da : Option Addr) (G : Hp) (o : HO) (d : D) : Prop :=
  (∃ xs ds, o = .lst xs ∧ d = .lst ds ∧ RepAll c da G xs ds) ∨ (∃ kvs ps, o = .dK kvs ∧ d = .dic ps ∧ RepKV c da G kvs ps) ∨ (∃ kvs ps, o = .dT kvs ∧ d = .dit ps ∧ RepKT c da G kvs ps) ∨ (∃ C dx fs cn gs, o = .ins C dx fs ∧ d = .ins cn gs ∧ c.mg cn = some (.ref C) ∧ RepF c da G fs gs)
theorem Obj.mono {c : Ct} {da : Option Addr} {G G' : Hp} {o : HO} {d : D} (e : Ex G G') (h : Obj c da G o d) : Obj c da G' o d := by
  rcases h with ⟨xs, ds, h1, h2, r⟩ | ⟨kvs, ps, h1, h2, r⟩ | ⟨kvs, ps, h1, h2, r⟩ | ⟨C, dx, fs, cn, gs, h1, h2, h3, r⟩
  · exact .inl ⟨xs, ds, h1, h2, r.mono e⟩
  · exact .inr (.inl ⟨kvs, ps, h1, h2, r.mono e⟩)
  · exact .inr (.inr (.inl ⟨kvs, ps, h1, h2, r.mono e⟩))
  · exact .inr (.inr (.inr ⟨C, dx, fs, cn, gs, h1, h2, h3, r.mono e⟩))
theorem Obj.rep {c : Ct} {da : Option Addr} {G : Hp} {a : Addr} {o : HO} {d : D} (h : Obj c da G o d) (e : G a = some o) : Rep c da G (.ref a) d := by
  rcases h with ⟨xs, ds, rfl, rfl, r⟩ | ⟨kvs, ps, rfl, rfl, r⟩ | ⟨kvs, ps, rfl, rfl, r⟩ | ⟨C, dx, fs, cn, gs, rfl, rfl, h3, r⟩
  · exact .lst e r
  · exact .dK e r
  · exact .dT e r
  · exact .ins e h3 r

theorem Obj.nt {c : Ct} {da : Option Addr} {G : Hp} {o : HO} {d : D} (h : Obj c da G o d) : ∀ xs, o ≠ .tup xs := by
  rcases h with ⟨_, _, rfl, _⟩ | ⟨_, _, rfl, _⟩ | ⟨_, _, rfl, _⟩ | ⟨_, _, _, _, _, rfl, _⟩ <;> (intro xs z; cases z)
/-! ### the state -/
inductive Slot where
  | val (d : D) | own (d : D)
abbrev Env := List (Option Slot)
structure W where
  wide : List Int
  cells : List Int
  rest : Int
  turn : Int
inductive RV where
  | sh (d : D) | fr (d : D) | ow (i : Nat)
abbrev M (α : Type) := Env → W → Option (α × Env × W)
def pureM {α : Type} (a : α) : M α := fun ρ w => some (a, ρ, w)
def failM {α : Type} : M α := fun _ _ => none
def bindM {α β : Type} (f : M α) (k : α → M β) : M β := fun ρ w => match f ρ w with
  | none => none
  | some (a, ρ', w') => k a ρ' w'
theorem bindM_some {α β : Type} {f : M α} {k : α → M β} {ρ : Env} {w : W} {z : β × Env × W} (h : bindM f k ρ w = some z) : ∃ a ρ' w', f ρ w = some (a, ρ', w') ∧ k a ρ' w' = some z := by
  unfold bindM at h
  cases e : f ρ w with
  | none =>
    rw [e] at h
    cases h
  | some p =>
    obtain ⟨a, ρ', w'⟩ := p
    rw [e] at h
    exact ⟨a, ρ', w', rfl, h⟩

def DrawAt (dr : Dr) (w : W) (H : Hp) : Prop :=
  (∀ t, dr.at_ = some t → H t.1 = some (.dK [(.inr "wide", .ref t.2.1), (.inr "cells", .ref t.2.2), (.inr "rest", .int w.rest), (.inr "turn", .int w.turn)]) ∧
    H t.2.1 = some (.lst (w.wide.map V.int)) ∧ H t.2.2 = some (.lst (w.cells.map V.int)) ∧ t.2.1 ≠ t.2.2 ∧ w.cells = dr.cl) ∧ LamX.Tabs Tabl.T H

/-- no tuple -/
def NT (o : HO) : Prop := ∀ xs, o ≠ .tup xs
/-- a frame: the draws, what was hidden at the entry, the heap at the entry -/
structure Fm where
  dr : Dr
  O0 : List Addr
  H0 : Hp
structure SR (c : Ct) (F : Fm) (O : List Addr) (ρ : Env) (w : W) (σ : L2.St) (H : Hp) : Prop where
  len : ρ.length = σ.length
  base : ∀ a o, F.H0 a = some o → a ∉ F.dr.as → H a = some o
  new : ∀ a ∈ O, a ∉ F.O0 → F.H0 a = none
  sub : ∀ a ∈ F.O0, a ∈ O
  drs : ∀ a ∈ F.dr.as, a ∈ F.O0
  trk : ∀ a ∈ O, ∃ o, H a = some o ∧ NT o
  draw : DrawAt F.dr w H
  val : ∀ (i : Nat) d, ρ[i]? = some (some (Slot.val d)) → ∃ v, σ[i]? = some (some v) ∧ Rep c F.dr.da (vis O H) v d
  own : ∀ (i : Nat) d, ρ[i]? = some (some (Slot.own d)) → ∃ a o, σ[i]? = some (some (V.ref a)) ∧ a ∈ O ∧ a ∉ F.O0 ∧ H a = some o ∧ Obj c F.dr.da (vis O H) o d
  uni : ∀ (i j : Nat) d d' a, ρ[i]? = some (some (Slot.own d)) → ρ[j]? = some (some (Slot.own d')) → σ[i]? = some (some (V.ref a)) → σ[j]? = some (some (V.ref a)) → i = j

/-- a value that came out; G: what was to be seen at the start -/
def RepR (c : Ct) (F : Fm) (G : Hp) (O : List Addr) (ρ : Env) (w : W) (σ : L2.St) (H : Hp) : RV → V → Prop
  | .sh d, v => Rep c F.dr.da (vis O H) v d
  | .fr d, v => ∃ a o, v = .ref a ∧ a ∉ O ∧ SR c F (a :: O) ρ w σ H ∧ H a = some o ∧ Obj c F.dr.da (vis (a :: O) H) o d ∧ Ex G (vis (a :: O) H)
  | .ow i, v => σ[i]? = some (some v) ∧ ∃ d, ρ[i]? = some (some (.own d))
/-- a value that is held while others are reckoned -/
def Hold (c : Ct) (F : Fm) (O : List Addr) (σ : L2.St) (H : Hp) : RV → V → Prop
  | .sh d, v => Rep c F.dr.da (vis O H) v d
  | .fr d, v => Rep c F.dr.da (vis O H) v d
  | .ow i, v => σ[i]? = some (some v)
/-- a value that is looked at: its own object may be hidden -/
def RepP (c : Ct) (da : Option Addr) (O : List Addr) (H : Hp) (v : V) (d : D) : Prop :=
  Rep c da (vis O H) v d ∨ ∃ a o, v = .ref a ∧ H a = some o ∧ Obj c da (vis O H) o d
def slotD : Option (Option Slot) → Option D
  | some (some (.own d)) => some d
  | some (some (.val d)) => some d
  | _ => none
def peek (ρ : Env) : RV → Option D
  | .sh d => some d
  | .fr d => some d
  | .ow i => slotD ρ[i]?
/-- a new value of a plain operation: H' is H with more -/
def RepN (c : Ct) (da : Option Addr) (O : List Addr) (H H' : Hp) : RV → V → Prop
  | .sh d, v => Rep c da (vis O H') v d
  | .fr d, v => ∃ a o, v = .ref a ∧ H a = none ∧ H' a = some o ∧ Obj c da (vis (a :: O) H') o d
  | .ow _, _ => False

section
variable {c : Ct} {F : Fm} {G G' : Hp} {O O' : List Addr} {ρ : Env} {w : W} {σ : L2.St} {H H' : Hp} {r : RV} {v : V} {d : D}
theorem DrawAt.mono {dr : Dr} {w : W} (e : Ex H H') (h : DrawAt dr w H) : DrawAt dr w H' := ⟨fun t q => let ⟨a, b, c, d⟩ := h.1 t q; ⟨e _ _ a, e _ _ b, e _ _ c, d⟩, h.2.ext e⟩
/-- more objects -/
theorem SR.grow (S : SR c F O ρ w σ H) (e : Ex H H') : SR c F O ρ w σ H' where
  len := S.len
  base := fun a o h n => e _ _ (S.base a o h n)
  new := S.new
  sub := S.sub
  drs := S.drs
  trk := fun a h => let ⟨o, q, n⟩ := S.trk a h; ⟨o, e _ _ q, n⟩
  draw := S.draw.mono e
  val := fun i d h => let ⟨v, h1, h2⟩ := S.val i d h; ⟨v, h1, h2.mono (vis_mono e)⟩
  own := fun i d h => let ⟨a, o, h1, h2, h3, h4, h5⟩ := S.own i d h; ⟨a, o, h1, h2, h3, e _ _ h4, h5.mono (vis_mono e)⟩
  uni := S.uni
theorem Hold.mono (e : Ex (vis O H) (vis O' H')) (h : Hold c F O σ H r v) : Hold c F O' σ H' r v := by
  cases r with
  | sh d => exact Rep.mono e h
  | fr d => exact Rep.mono e h
  | ow i => exact h
theorem RepR.less (e : Ex G' G) (h : RepR c F G O ρ w σ H r v) : RepR c F G' O ρ w σ H r v := by
  cases r with
  | sh d => exact h
  | ow i => exact h
  | fr d =>
    obtain ⟨a, o, h1, h2, h3, h4, h5, h6⟩ := h
    exact ⟨a, o, h1, h2, h3, h4, h5, e.trans h6⟩
theorem RepR.hold (h : RepR c F G O ρ w σ H r v) : Hold c F O σ H r v := by
  cases r with
  | sh d => exact h
  | fr d =>
    obtain ⟨a, o, rfl, n, S, e, q, _⟩ := h
    exact (q.mono vis_cons).rep (by rw [vis_out n]; exact e)
  | ow i => exact h.1
theorem Hold.peek (S : SR c F O ρ w σ H) (h : Hold c F O σ H r v) (e : peek ρ r = some d) : RepP c F.dr.da O H v d := by
  cases r with
  | sh d' =>
    cases e
    exact .inl h
  | fr d' =>
    cases e
    exact .inl h
  | ow i =>
    have e : slotD ρ[i]? = some d := e
    have h' : σ[i]? = some (some v) := h
    cases q : ρ[i]? with
    | none =>
      rw [q] at e
      cases e
    | some s =>
      rw [q] at e
      cases s with
      | none => cases e
      | some s =>
        cases s with
        | val d' =>
          cases e
          obtain ⟨v', h1, h2⟩ := S.val i d q
          rw [h'] at h1
          cases h1
          exact .inl h2
        | own d' =>
          cases e
          obtain ⟨a, o, h1, h2, h3, h4, h5⟩ := S.own i d q
          rw [h'] at h1
          cases h1
          exact .inr ⟨a, o, rfl, h4, h5⟩
/-- one more hidden place -/
theorem SR.hide {a : Addr} {o : HO} (S : SR c F O ρ w σ H) (n : H a = none) (e : Ex H H') (q : H' a = some o) (nt : NT o := by intro _ z; cases z) : SR c F (a :: O) ρ w σ H' ∧ a ∉ O ∧ Ex (vis O H) (vis (a :: O) H') := by
  have S' := S.grow e
  have nO : a ∉ O := fun z => by
    obtain ⟨u, hu, _⟩ := S.trk a z
    rw [n] at hu
    cases hu
  have k : Ex (vis O H) (vis (a :: O) H') := fun b u hb => by
    obtain ⟨m, hb⟩ := vis_some hb
    rw [vis_out fun z => ?_]
    · exact e _ _ hb
    · rcases List.mem_cons.mp z with z | z
      · rw [z, n] at hb
        cases hb
      · exact m z
  refine ⟨⟨S.len, S'.base, fun b h m => ?_, fun b h => List.mem_cons_of_mem _ (S.sub b h), S.drs, fun b h => ?_, S'.draw, fun i d h => ?_, fun i d h => ?_, S'.uni⟩, nO, k⟩
  · rcases List.mem_cons.mp h with z | z
    · subst z
      cases z : F.H0 b with
      | none => rfl
      | some u =>
        have nd : b ∉ F.dr.as := fun y => m (S.drs b y)
        rw [S.base b u z nd] at n
        cases n
    · exact S.new b z m
  · rcases List.mem_cons.mp h with z | z
    · rw [z]
      exact ⟨o, q, nt⟩
    · exact S'.trk b z
  · obtain ⟨u, h1, h2⟩ := S.val i d h
    exact ⟨u, h1, h2.mono k⟩
  · obtain ⟨b, u, h1, h2, h3, h4, h5⟩ := S.own i d h
    exact ⟨b, u, h1, List.mem_cons_of_mem _ h2, h3, e _ _ h4, h5.mono k⟩
/-- a plain operation's value is a value that came out -/
theorem RepN.out (S : SR c F O ρ w σ H) (e : Ex H H') (h : RepN c F.dr.da O H H' r v) : RepR c F (vis O H) O ρ w σ H' r v := by
  cases r with
  | sh d => exact h
  | ow i => exact h.elim
  | fr d =>
    obtain ⟨a, o, rfl, n, q, ob⟩ := h
    obtain ⟨S1, n1, k1⟩ := S.hide n e q ob.nt
    exact ⟨a, o, rfl, n1, S1, q, ob, k1⟩
end

/-! ### the judgements -/
abbrev ct (X : Cx) : Ct := ⟨X.K, X.mg⟩
def tE (c : Ct) (F : Fm) (f : M RV) : TE := fun σ H Q => ∃ O ρ w r ρ' w', SR c F O ρ w σ H ∧ f ρ w = some (r, ρ', w') ∧
  ∀ v O' H', SR c F O' ρ' w' σ H' → Ex (vis O H) (vis O' H') → RepR c F (vis O H) O' ρ' w' σ H' r v → Q v H'
def tT (c : Ct) (F : Fm) (f : M Bool) : TT := fun σ H Q => ∃ O ρ w b ρ' w', SR c F O ρ w σ H ∧ f ρ w = some (b, ρ', w') ∧
  ∀ O' H', SR c F O' ρ' w' σ H' → Ex (vis O H) (vis O' H') → Q b H'
inductive HoldAll (c : Ct) (F : Fm) (O : List Addr) (σ : L2.St) (H : Hp) : List RV → List V → Prop
  | nil : HoldAll c F O σ H [] []
  | cons {r : RV} {v : V} {rs : List RV} {vs : List V} : Hold c F O σ H r v → HoldAll c F O σ H rs vs → HoldAll c F O σ H (r :: rs) (v :: vs)
theorem HoldAll.mono {c : Ct} {F : Fm} {O O' : List Addr} {σ : L2.St} {H H' : Hp} (e : Ex (vis O H) (vis O' H')) : ∀ {rs : List RV} {vs : List V}, HoldAll c F O σ H rs vs → HoldAll c F O' σ H' rs vs
  | _, _, .nil => .nil
  | _, _, .cons h r => .cons (h.mono e) (HoldAll.mono e r)
theorem HoldAll.length {c : Ct} {F : Fm} {O : List Addr} {σ : L2.St} {H : Hp} : ∀ {rs : List RV} {vs : List V}, HoldAll c F O σ H rs vs → rs.length = vs.length
  | _, _, .nil => rfl
  | _, _, .cons h r => by simp [HoldAll.length r]
def tA (c : Ct) (F : Fm) (f : M (List RV)) : TA := fun σ H Q => ∃ O ρ w rs ρ' w', SR c F O ρ w σ H ∧ f ρ w = some (rs, ρ', w') ∧
  ∀ vs O' H', SR c F O' ρ' w' σ H' → Ex (vis O H) (vis O' H') → HoldAll c F O' σ H' rs vs → Q vs H'
def FE (X : Cx) (e : Expr) (f : M RV) : Prop := ∀ F, PE X e (tE (ct X) F f)
def FT (X : Cx) (e : Expr) (f : M Bool) : Prop := ∀ F, PT X e (tT (ct X) F f)
def FW (X : Cx) (e : Expr) (f : M Bool) : Prop := ∀ F, PW X e (tT (ct X) F f)
structure FA (X : Cx) (es : List Expr) (f : M (List RV)) : Prop where
  run : ∀ F, PA X es (tA (ct X) F f)
  len : ∀ ρ w rs ρ' w', f ρ w = some (rs, ρ', w') → rs.length = es.length
/-- how a statement ends -/
inductive Fl where
  | nx | ret (r : RV) | bk | ct
def Done (c : Ct) (F : Fm) (G : Hp) (fl : Fl) (ρ : Env) (w : W) (E : Ends) : Prop := match fl with
  | .nx => ∀ σ O H, SR c F O ρ w σ H → Ex G (vis O H) → E.nx σ H
  | .bk => ∀ σ O H, SR c F O ρ w σ H → Ex G (vis O H) → E.bk σ H
  | .ct => ∀ σ O H, SR c F O ρ w σ H → Ex G (vis O H) → E.ct σ H
  | .ret r => ∀ v σ O H, SR c F O ρ w σ H → RepR c F G O ρ w σ H r v → E.rt v H
theorem Done.more {c : Ct} {F : Fm} {G G' : Hp} {fl : Fl} {ρ : Env} {w : W} {E : Ends} (e : Ex G G') (h : Done c F G fl ρ w E) : Done c F G' fl ρ w E := by
  cases fl with
  | nx => exact fun σ O H S x => h σ O H S (e.trans x)
  | bk => exact fun σ O H S x => h σ O H S (e.trans x)
  | ct => exact fun σ O H S x => h σ O H S (e.trans x)
  | ret r => exact fun v σ O H S x => h v σ O H S (x.less e)
def tS (c : Ct) (F : Fm) (f : M Fl) : TS := fun E σ H => ∃ O ρ w fl ρ' w', SR c F O ρ w σ H ∧ f ρ w = some (fl, ρ', w') ∧ Done c F (vis O H) fl ρ' w' E
def FS (X : Cx) (st : Stmt) (f : M Fl) : Prop := ∀ F, PS X st (tS (ct X) F f)
def FSs (X : Cx) (st : List Stmt) (f : M Fl) : Prop := ∀ F, PSs X st (tS (ct X) F f)
theorem PE.wk {X : Cx} {e : Expr} {t t' : TE} (h : PE X e t) (k : ∀ σ H Q, t' σ H Q → t σ H Q) : PE X e t' := ⟨fun pins s σ H Q I q => h.run pins s σ H Q I (k σ H Q q)⟩
theorem PT.wk {X : Cx} {e : Expr} {t t' : TT} (h : PT X e t) (k : ∀ σ H Q, t' σ H Q → t σ H Q) : PT X e t' := ⟨fun pins s σ H Q I q => h.run pins s σ H Q I (k σ H Q q)⟩
theorem PW.wk {X : Cx} {e : Expr} {t t' : TT} (h : PW X e t) (k : ∀ σ H Q, t' σ H Q → t σ H Q) : PW X e t' := ⟨fun wh pins s σ H Q I q => h.run wh pins s σ H Q I (k σ H Q q)⟩
theorem PA.wk {X : Cx} {e : List Expr} {t t' : TA} (h : PA X e t) (k : ∀ σ H Q, t' σ H Q → t σ H Q) : PA X e t' := ⟨fun p pins s σ H Q I q => h.run p pins s σ H Q I (k σ H Q q)⟩
theorem PS.wk {X : Cx} {e : Stmt} {t t' : TS} (h : PS X e t) (k : ∀ D σ H, t' D σ H → t D σ H) : PS X e t' := ⟨fun pins s σ H D I q => h.run pins s σ H D I (k D σ H q)⟩
theorem PSs.wk {X : Cx} {e : List Stmt} {t t' : TS} (h : PSs X e t) (k : ∀ D σ H, t' D σ H → t D σ H) : PSs X e t' := ⟨fun pins s σ H D I q => h.run pins s σ H D I (k D σ H q)⟩
end FD

end sec_FD1
section sec_FD2
set_option maxRecDepth 100000
set_option maxHeartbeats 5000000
/-! FD2: expressions. -/
namespace FD
open PySem L2
variable [Tabl]

section
variable {c : Ct} {da : Option Addr} {O : List Addr} {H : Hp} {v : V}
theorem Obj.noInt {G : Hp} {o : HO} {i : Int} (h : Obj c da G o (.int i)) : False := by
  rcases h with ⟨_, _, _, e, _⟩ | ⟨_, _, _, e, _⟩ | ⟨_, _, _, e, _⟩ | ⟨_, _, _, _, _, _, e, _⟩ <;> cases e
theorem RepP.int {i : Int} (h : RepP c da O H v (.int i)) : v = .int i := by
  rcases h with h | ⟨a, o, _, _, h⟩
  · cases h; rfl
  · exact h.noInt.elim
theorem RepP.str {i : Str} (h : RepP c da O H v (.str i)) : v = .str i := by
  rcases h with h | ⟨a, o, _, _, h⟩
  · cases h; rfl
  · rcases h with ⟨_, _, _, e, _⟩ | ⟨_, _, _, e, _⟩ | ⟨_, _, _, e, _⟩ | ⟨_, _, _, _, _, _, e, _⟩ <;> cases e
theorem RepP.bl {i : Bool} (h : RepP c da O H v (.bl i)) : v = .bl i := by
  rcases h with h | ⟨a, o, _, _, h⟩
  · cases h; rfl
  · rcases h with ⟨_, _, _, e, _⟩ | ⟨_, _, _, e, _⟩ | ⟨_, _, _, e, _⟩ | ⟨_, _, _, _, _, _, e, _⟩ <;> cases e
theorem RepP.non (h : RepP c da O H v .non) : v = .non := by
  rcases h with h | ⟨a, o, _, _, h⟩
  · cases h; rfl
  · rcases h with ⟨_, _, _, e, _⟩ | ⟨_, _, _, e, _⟩ | ⟨_, _, _, e, _⟩ | ⟨_, _, _, _, _, _, e, _⟩ <;> cases e
theorem RepP.ty {n : String} (h : RepP c da O H v (.ty n)) : v = .ty n := by
  rcases h with h | ⟨a, o, _, _, h⟩
  · cases h; rfl
  · rcases h with ⟨_, _, _, e, _⟩ | ⟨_, _, _, e, _⟩ | ⟨_, _, _, e, _⟩ | ⟨_, _, _, _, _, _, e, _⟩ <;> cases e
theorem RepP.tup {ds : List D} (h : RepP c da O H v (.tup ds)) : ∃ a xs, v = .ref a ∧ SqT c.K H a xs ∧ RepAll c da (vis O H) xs ds ∧ Rep c da (vis O H) v (.tup ds) := by
  rcases h with h | ⟨a, o, _, _, h⟩
  · cases id h with
    | tup s r => exact ⟨_, _, rfl, .inl (.inl (vis_ex _ _ s)), r, h⟩
  · rcases h with ⟨_, _, _, e, _⟩ | ⟨_, _, _, e, _⟩ | ⟨_, _, _, e, _⟩ | ⟨_, _, _, _, _, _, e, _⟩ <;> cases e
theorem RepP.tupH {ds : List D} (h : RepP c da O H v (.tup ds)) : ∃ a xs, v = .ref a ∧ vis O H a = some (.tup xs) ∧ RepAll c da (vis O H) xs ds := by
  rcases h with h | ⟨a, o, _, _, h⟩
  · cases h with
    | tup s r => exact ⟨_, _, rfl, s, r⟩
  · rcases h with ⟨_, _, _, e, _⟩ | ⟨_, _, _, e, _⟩ | ⟨_, _, _, e, _⟩ | ⟨_, _, _, _, _, _, e, _⟩ <;> cases e
theorem RepP.ktup {ds : List D} (h : RepP c da O H v (.ktup ds)) : ∃ a xs, v = .ref a ∧ SqT c.K H a xs ∧ RepAll c da (vis O H) xs ds ∧ Rep c da (vis O H) v (.ktup ds) := by
  rcases h with h | ⟨a, o, _, _, h⟩
  · cases id h with
    | ktup s r => exact ⟨_, _, rfl, vis_ex.st s, r, h⟩
  · rcases h with ⟨_, _, _, e, _⟩ | ⟨_, _, _, e, _⟩ | ⟨_, _, _, e, _⟩ | ⟨_, _, _, _, _, _, e, _⟩ <;> cases e
theorem RepP.lst {ds : List D} (h : RepP c da O H v (.lst ds)) : ∃ a xs, v = .ref a ∧ H a = some (.lst xs) ∧ RepAll c da (vis O H) xs ds := by
  rcases h with h | ⟨a, o, ev, e, h⟩
  · cases h with
    | lst s r => exact ⟨_, _, rfl, vis_ex _ _ s, r⟩
  · rcases h with ⟨xs, es, e1, e2, r⟩ | ⟨_, _, _, e, _⟩ | ⟨_, _, _, e, _⟩ | ⟨_, _, _, _, _, _, e, _⟩
    · cases e2
      subst e1
      exact ⟨a, xs, ev, e, r⟩
    · cases e
    · cases e
    · cases e
theorem RepP.scr {ns : List Int} (h : RepP c da O H v (.scr ns)) : ∃ a, v = .ref a ∧ SqL c.K H a (ns.map V.int) := by
  rcases h with h | ⟨a, o, _, _, h⟩
  · cases h with
    | scr s => exact ⟨_, rfl, vis_ex.sl s⟩
  · rcases h with ⟨_, _, _, e, _⟩ | ⟨_, _, _, e, _⟩ | ⟨_, _, _, e, _⟩ | ⟨_, _, _, _, _, _, e, _⟩ <;> cases e
theorem RepP.ins {cn : Str} {gs : List (Str × D)} (h : RepP c da O H v (.ins cn gs)) : ∃ a C dx fs, v = .ref a ∧ H a = some (.ins C dx fs) ∧ c.mg cn = some (.ref C) ∧ RepF c da (vis O H) fs gs := by
  rcases h with h | ⟨a, o, ev, ea, h⟩
  · cases id h with
    | ins e m r => exact ⟨_, _, _, _, rfl, vis_ex _ _ e, m, r⟩
  · rcases h with ⟨_, _, _, e, _⟩ | ⟨_, _, _, e, _⟩ | ⟨_, _, _, e, _⟩ | ⟨C, dx, fs, cn', gs', e1, e2, e3, r⟩
    · cases e
    · cases e
    · cases e
    · cases e2
      subst e1
      exact ⟨a, C, dx, fs, ev, ea, e3, r⟩
theorem RepP.dic {ps : List (D × D)} (h : RepP c da O H v (.dic ps)) : ∃ a kvs, v = .ref a ∧ H a = some (.dK kvs) ∧ RepKV c da (vis O H) kvs ps := by
  rcases h with h | ⟨a, o, ev, e, h⟩
  · cases h with
    | dK s r => exact ⟨_, _, rfl, vis_ex _ _ s, r⟩
  · rcases h with ⟨xs, es, e1, e2, r⟩ | ⟨kvs, qs, e1, e2, r⟩ | ⟨kvs, qs, e1, e2, r⟩ | ⟨_, _, _, _, _, _, e2, _⟩
    · cases e2
    · cases e2
      subst e1
      exact ⟨a, kvs, ev, e, r⟩
    · cases e2
    · cases e2
theorem RepP.dit {ps : List (D × D)} (h : RepP c da O H v (.dit ps)) : ∃ a kvs, v = .ref a ∧ H a = some (.dT kvs) ∧ RepKT c da (vis O H) kvs ps := by
  rcases h with h | ⟨a, o, ev, e, h⟩
  · cases h with
    | dT s r => exact ⟨_, _, rfl, vis_ex _ _ s, r⟩
  · rcases h with ⟨xs, es, e1, e2, r⟩ | ⟨kvs, qs, e1, e2, r⟩ | ⟨kvs, qs, e1, e2, r⟩ | ⟨_, _, _, _, _, _, e2, _⟩
    · cases e2
    · cases e2
    · cases e2
      subst e1
      exact ⟨a, kvs, ev, e, r⟩
    · cases e2
end

section
variable {c : Ct} {da : Option Addr} {O : List Addr} {H : Hp} {v : V}
theorem RepP.fdit {ps : List (D × D)} (h : RepP c da O H v (.fdit ps)) : ∃ a ob kvs, v = .ref a ∧ H a = some (.frz ob (.dT kvs)) ∧ RepKT c da (vis O H) kvs ps ∧ vis O H a = some (.frz ob (.dT kvs)) := by
  rcases h with h | ⟨a, o, ev, e, h⟩
  · cases h with
    | fdT s r => exact ⟨_, _, _, rfl, vis_ex _ _ s, r, s⟩
  · rcases h with ⟨_, _, _, e, _⟩ | ⟨_, _, _, e, _⟩ | ⟨_, _, _, e, _⟩ | ⟨_, _, _, _, _, _, e, _⟩ <;> cases e
end

/-! ### operations on what is looked at -/
inductive AllP (c : Ct) (da : Option Addr) (O : List Addr) (H : Hp) : List V → List D → Prop
  | nil : AllP c da O H [] []
  | cons {v : V} {d : D} {vs : List V} {ds : List D} : RepP c da O H v d → AllP c da O H vs ds → AllP c da O H (v :: vs) (d :: ds)
/-- a plain operation by values: its arguments are looked at, its value is new -/
def rPure (c : Ct) (g : List D → Option RV) : List V → Hp → VK → Prop := fun xs H Q => ∃ da O ds r, (∀ a ∈ O, ∃ o, H a = some o ∧ NT o) ∧ AllP c da O H xs ds ∧ g ds = some r ∧ ∀ v H', Ex H H' → RepN c da O H H' r v → Q v H'
def rP2 (c : Ct) (g : D → D → Option RV) : R2 := fun x y H Q => ∃ da O d1 d2 r, (∀ a ∈ O, ∃ o, H a = some o ∧ NT o) ∧ RepP c da O H x d1 ∧ RepP c da O H y d2 ∧ g d1 d2 = some r ∧ ∀ v H', Ex H H' → RepN c da O H H' r v → Q v H'
def rP1 (c : Ct) (g : D → Option RV) : V → Hp → VK → Prop := fun x H Q => ∃ da O d1 r, (∀ a ∈ O, ∃ o, H a = some o ∧ NT o) ∧ RepP c da O H x d1 ∧ g d1 = some r ∧ ∀ v H', Ex H H' → RepN c da O H H' r v → Q v H'
def lift1 (g : D → Option RV) (r1 : RV) : M RV := fun ρ w => match peek ρ r1 with
  | some d1 => (match g d1 with | some r => some (r, ρ, w) | none => none)
  | none => none
def lift2 (g : D → D → Option RV) (r1 r2 : RV) : M RV := fun ρ w => match peek ρ r1 with
  | some d1 => (match peek ρ r2 with
    | some d2 => (match g d1 d2 with | some r => some (r, ρ, w) | none => none)
    | none => none)
  | none => none
def peeks (ρ : Env) : List RV → Option (List D)
  | [] => some []
  | r :: rs => match peek ρ r with
    | some d => (match peeks ρ rs with | some ds => some (d :: ds) | none => none)
    | none => none
def liftN (g : List D → Option RV) (rs : List RV) : M RV := fun ρ w => match peeks ρ rs with
  | some ds => (match g ds with | some r => some (r, ρ, w) | none => none)
  | none => none
theorem lift1_some {g : D → Option RV} {r1 : RV} {ρ : Env} {w : W} {z : RV × Env × W} (h : lift1 g r1 ρ w = some z) : ∃ d1 r, peek ρ r1 = some d1 ∧ g d1 = some r ∧ z = (r, ρ, w) := by
  unfold lift1 at h
  split at h
  · rename_i d1 e1
    split at h
    · rename_i r e
      exact ⟨d1, r, e1, e, (Option.some.inj h).symm⟩
    · cases h
  · cases h
theorem lift2_some {g : D → D → Option RV} {r1 r2 : RV} {ρ : Env} {w : W} {z : RV × Env × W} (h : lift2 g r1 r2 ρ w = some z) : ∃ d1 d2 r, peek ρ r1 = some d1 ∧ peek ρ r2 = some d2 ∧ g d1 d2 = some r ∧ z = (r, ρ, w) := by
  unfold lift2 at h
  split at h
  · rename_i d1 e1
    split at h
    · rename_i d2 e2
      split at h
      · rename_i r e
        exact ⟨d1, d2, r, e1, e2, e, (Option.some.inj h).symm⟩
      · cases h
    · cases h
  · cases h
theorem liftN_some {g : List D → Option RV} {rs : List RV} {ρ : Env} {w : W} {z : RV × Env × W} (h : liftN g rs ρ w = some z) : ∃ ds r, peeks ρ rs = some ds ∧ g ds = some r ∧ z = (r, ρ, w) := by
  unfold liftN at h
  split at h
  · rename_i d1 e1
    split at h
    · rename_i r e
      exact ⟨d1, r, e1, e, (Option.some.inj h).symm⟩
    · cases h
  · cases h
theorem HoldAll.peeks {c : Ct} {F : Fm} {O : List Addr} {ρ : Env} {w : W} {σ : L2.St} {H : Hp} (S : SR c F O ρ w σ H) : ∀ {rs : List RV} {vs : List V} {ds : List D}, HoldAll c F O σ H rs vs → peeks ρ rs = some ds → AllP c F.dr.da O H vs ds
  | _, _, _, .nil, e => by
    cases e
    exact .nil
  | _, _, _, .cons h r, e => by
    unfold FD.peeks at e
    split at e
    · rename_i d e1
      split at e
      · rename_i ds e2
        cases e
        exact .cons (h.peek S e1) (HoldAll.peeks S r e2)
      · cases e
    · cases e

section
variable {X : Cx} {a b e : Expr} {pos : Pos} {fa fb fe : M RV}
theorem tE_then {c : Ct} {F : Fm} {O : List Addr} {ρ : Env} {w : W} {σ : L2.St} {H : Hp} {f : M RV} {β : Type} {k : RV → M β} {z : β × Env × W} (S : SR c F O ρ w σ H) (h : bindM f k ρ w = some z) {Q : VK}
    (q : ∀ v O1 ρ1 w1 H1 r, SR c F O1 ρ1 w1 σ H1 → Ex (vis O H) (vis O1 H1) → RepR c F (vis O H) O1 ρ1 w1 σ H1 r v → k r ρ1 w1 = some z → Q v H1) : tE c F f σ H Q := by
  obtain ⟨r, ρ1, w1, e1, e2⟩ := bindM_some h
  exact ⟨O, ρ, w, r, ρ1, w1, S, e1, fun v O1 H1 S1 x R => q v O1 ρ1 w1 H1 r S1 x R e2⟩
theorem tT_then {c : Ct} {F : Fm} {O : List Addr} {ρ : Env} {w : W} {σ : L2.St} {H : Hp} {f : M Bool} {β : Type} {k : Bool → M β} {z : β × Env × W} (S : SR c F O ρ w σ H) (h : bindM f k ρ w = some z) {Q : Bool → Hp → Prop}
    (q : ∀ b O1 ρ1 w1 H1, SR c F O1 ρ1 w1 σ H1 → Ex (vis O H) (vis O1 H1) → k b ρ1 w1 = some z → Q b H1) : tT c F f σ H Q := by
  obtain ⟨r, ρ1, w1, e1, e2⟩ := bindM_some h
  exact ⟨O, ρ, w, r, ρ1, w1, S, e1, fun O1 H1 S1 x => q r O1 ρ1 w1 H1 S1 x e2⟩
theorem tA_then {c : Ct} {F : Fm} {O : List Addr} {ρ : Env} {w : W} {σ : L2.St} {H : Hp} {f : M (List RV)} {β : Type} {k : List RV → M β} {z : β × Env × W} (S : SR c F O ρ w σ H) (h : bindM f k ρ w = some z) {Q : List V → Hp → Prop}
    (q : ∀ vs O1 ρ1 w1 H1 rs, SR c F O1 ρ1 w1 σ H1 → Ex (vis O H) (vis O1 H1) → HoldAll c F O1 σ H1 rs vs → f ρ w = some (rs, ρ1, w1) → k rs ρ1 w1 = some z → Q vs H1) : tA c F f σ H Q := by
  obtain ⟨r, ρ1, w1, e1, e2⟩ := bindM_some h
  exact ⟨O, ρ, w, r, ρ1, w1, S, e1, fun v O1 H1 S1 x R => q v O1 ρ1 w1 H1 r S1 x R e1 e2⟩

/-! ### names, constants -/
theorem fe_c {v : V} {d : D} (h : PE X e (tC v)) (r : ∀ c da G, Rep c da G v d) : FE X e (pureM (.sh d)) := fun F => PE.wk h fun σ H Q q => by
  obtain ⟨O, ρ, w, r', ρ', w', S, e, k⟩ := q
  cases e
  exact k v O H S (Ex.refl _) (r _ _ _)
theorem fe_int {i : Int} {j : Nat} : FE X (.Constant (.int i) j pos) (pureM (.sh (.int i))) := fe_c pe_int fun _ _ _ => .int i
theorem fe_bl {b : Bool} {j : Nat} : FE X (.Constant (.bool b) j pos) (pureM (.sh (.bl b))) := fe_c pe_bl fun _ _ _ => .bl b
theorem fe_non {j : Nat} : FE X (.Constant .none j pos) (pureM (.sh .non)) := fe_c pe_non fun _ _ _ => .non
theorem fe_str {x : Str} {j : Nat} : FE X (.Constant (.str x) j pos) (pureM (.sh (.str x))) := fe_c pe_str fun _ _ _ => .str x
def varM (i : Nat) : M RV := fun ρ w => match ρ[i]? with
  | some (some (.val d)) => some (.sh d, ρ, w)
  | some (some (.own _)) => some (.ow i, ρ, w)
  | _ => none
theorem fe_var {i : Nat} {x : Str} (hN : X.N[i]? = some x) (hv : Vis X.env.scope x) (hd : (x == ("__debug__" : Str)) = false := by decide) (hcd : (x == ("__classdict__" : Str)) = false := by decide) : FE X (.Name x pos) (varM i) := fun F => PE.wk (pe_var hN hv hd hcd) fun σ H Q q => by
  obtain ⟨O, ρ, w, r', ρ', w', S, e, k⟩ := q
  unfold varM at e
  split at e
  · rename_i d h
    cases e
    obtain ⟨v, h1, h2⟩ := S.val i d h
    exact ⟨v, h1, k v O H S (Ex.refl _) h2⟩
  · rename_i d h
    cases e
    obtain ⟨a, o, h1, h2⟩ := S.own i d h
    exact ⟨_, h1, k _ O H S (Ex.refl _) ⟨h1, d, h⟩⟩
  · cases e
theorem fe_glob {x : Str} {v : V} {u : Value} {d : D} (hg : Gl X x) (hm : X.mg x = some u) (r : RelV v u) (rd : ∀ da G, Rep (ct X) da G v d) (hd : (x == ("__debug__" : Str)) = false := by decide) : FE X (.Name x pos) (pureM (.sh d)) := fun F => PE.wk (pe_glob hg hm r hd) fun σ H Q q => by
  obtain ⟨O, ρ, w, r', ρ', w', S, e, k⟩ := q
  cases e
  exact k v O H S (Ex.refl _) (rd _ _)

/-! ### operators -/
def op2M (g : D → D → Option RV) (fa fb : M RV) : M RV := bindM fa fun r1 => bindM fb fun r2 => lift2 g r1 r2
theorem op2_read {c : Ct} {F : Fm} {g : D → D → Option RV} {σ : L2.St} {H : Hp} {Q : VK} (h : tE c F (op2M g fa fb) σ H Q) : tOp (rP2 c g) (tE c F fa) (tE c F fb) σ H Q := by
  obtain ⟨O, ρ, w, r, ρ', w', S, e, k⟩ := h
  refine tE_then S e fun x O1 ρ1 w1 H1 r1 S1 e1 R1 h1 => ?_
  refine tE_then S1 h1 fun y O2 ρ2 w2 H2 r2 S2 e2 R2 h2 => ?_
  obtain ⟨d1, d2, r', p1, p2, eg, ez⟩ := lift2_some h2
  cases ez
  exact ⟨F.dr.da, O2, d1, d2, r, S2.trk, (R1.hold.mono e2).peek S2 p1, R2.hold.peek S2 p2, eg, fun v H3 e3 n => k v O2 H3 (S2.grow e3) ((e1.trans e2).trans (vis_mono e3)) ((n.out S2 e3).less (e1.trans e2))⟩
theorem fe_op {op : Operator} {g : D → D → Option RV} (ho : OpR X (binaryOp op) (rP2 (ct X) g)) (ha : FE X a fa) (hb : FE X b fb) : FE X (.BinOp a op b pos) (op2M g fa fb) := fun F =>
  PE.wk (pe_op ho (ha F) (hb F)) fun σ H Q h => op2_read h
theorem fe_cmp {op : CmpOp} {g : D → D → Option RV} (ho : OpR X (compareOp op) (rP2 (ct X) g)) (ha : FE X a fa) (hb : FE X b fb) (hm : behindInMarks op b = false) : FE X (.Compare a [op] [b] pos) (op2M g fa fb) := fun F =>
  PE.wk (pe_cmpR ho (ha F) (hb F) hm) fun σ H Q h => op2_read h
def op1M (g : D → Option RV) (fa : M RV) : M RV := bindM fa fun r1 => lift1 g r1
theorem fe_un {op : UnaryOp} {g : D → Option RV} (ho : UnR X (unaryOp op) (rP1 (ct X) g)) (ha : FE X a fa) : FE X (.UnaryOp op a pos) (op1M g fa) := fun F =>
  PE.wk (pe_un ho (ha F)) fun σ H Q h => by
    obtain ⟨O, ρ, w, r, ρ', w', S, e, k⟩ := h
    refine tE_then S e fun x O1 ρ1 w1 H1 r1 S1 e1 R1 h1 => ?_
    obtain ⟨d1, r', p1, eg, ez⟩ := lift1_some h1
    cases ez
    exact ⟨F.dr.da, O1, d1, r, S1.trk, R1.hold.peek S1 p1, eg, fun v H3 e3 n => k v O1 H3 (S1.grow e3) (e1.trans (vis_mono e3)) ((n.out S1 e3).less e1)⟩

/-! ### tests -/
def asB : RV → Option Bool
  | .sh (.bl b) => some b
  | _ => none
def boolM (f : M RV) : M Bool := bindM f fun r => fun ρ w => match asB r with
  | some b => some (b, ρ, w)
  | none => none
theorem boolM_some {r : RV} {ρ : Env} {w : W} {z : Bool × Env × W} (h : (match asB r with | some b => some (b, ρ, w) | none => none) = some z) : ∃ b, r = .sh (.bl b) ∧ z = (b, ρ, w) := by
  split at h
  · rename_i b e
    unfold asB at e
    split at e
    · cases e
      exact ⟨b, rfl, (Option.some.inj h).symm⟩
    · cases e
  · cases h
theorem bool_read {c : Ct} {F : Fm} {f : M RV} {σ : L2.St} {H : Hp} {Q : Bool → Hp → Prop} (h : tT c F (boolM f) σ H Q) : tB (tE c F f) σ H Q := by
  obtain ⟨O, ρ, w, b, ρ', w', S, e, k⟩ := h
  refine tE_then S e fun x O1 ρ1 w1 H1 r1 S1 e1 R1 h1 => ?_
  obtain ⟨b', er, ez⟩ := boolM_some h1
  subst er
  cases ez
  cases R1
  exact ⟨_, rfl, k O1 H1 S1 e1⟩
theorem ft_val (h : FE X e fe) (he : ∀ whole, isTrue e X.env whole = (do let v ← whole; standAt e.pos; holding [v] (truthy v)) := by intro _; rfl) : FT X e (boolM fe) := fun F =>
  PT.wk (pt_val (h F) he) fun σ H Q q => bool_read q
theorem ft_cmp {op : CmpOp} {g : D → D → Option RV} (ho : OpR X (compareOp op) (rP2 (ct X) g)) (ha : FE X a fa) (hb : FE X b fb) (hm : behindInMarks op b = false) : FT X (.Compare a [op] [b] pos) (boolM (op2M g fa fb)) := fun F =>
  PT.wk (pt_cmpR ho (ha F) (hb F) hm) fun σ H Q q => by
    have q' := bool_read q
    exact op2_read q'
variable {ta tb : M Bool} {rest : List Expr}
def andT (ta tb : M Bool) : M Bool := bindM ta fun b => if b then tb else pureM false
def orT (ta tb : M Bool) : M Bool := bindM ta fun b => if b then pureM true else tb
def notT (ta : M Bool) : M Bool := bindM ta fun b => pureM (!b)
theorem fw_and1 (ha : FT X a ta) : FW X (.BoolOp .And [a] pos) ta := fun F => pw_and1 (ha F)
theorem fw_or1 (ha : FT X a ta) : FW X (.BoolOp .Or [a] pos) ta := fun F => pw_or1 (ha F)
theorem fw_and (ha : FT X a ta) (hb : FW X (.BoolOp .And (b :: rest) pos) tb) : FW X (.BoolOp .And (a :: b :: rest) pos) (andT ta tb) := fun F => PW.wk (pw_and (ha F) (hb F)) fun σ H Q q => by
  obtain ⟨O, ρ, w, r, ρ', w', S, e, k⟩ := q
  refine tT_then S e fun b O1 ρ1 w1 H1 S1 e1 h1 => ?_
  cases b with
  | true => exact ⟨O1, ρ1, w1, r, ρ', w', S1, h1, fun O2 H2 S2 e2 => k O2 H2 S2 (e1.trans e2)⟩
  | false =>
    cases h1
    exact k O1 H1 S1 e1
theorem fw_or (ha : FT X a ta) (hb : FW X (.BoolOp .Or (b :: rest) pos) tb) : FW X (.BoolOp .Or (a :: b :: rest) pos) (orT ta tb) := fun F => PW.wk (pw_or (ha F) (hb F)) fun σ H Q q => by
  obtain ⟨O, ρ, w, r, ρ', w', S, e, k⟩ := q
  refine tT_then S e fun b O1 ρ1 w1 H1 S1 e1 h1 => ?_
  cases b with
  | false => exact ⟨O1, ρ1, w1, r, ρ', w', S1, h1, fun O2 H2 S2 e2 => k O2 H2 S2 (e1.trans e2)⟩
  | true =>
    cases h1
    exact k O1 H1 S1 e1
theorem ft_w {t : M Bool} (h : FW X e t) : FT X e t := fun F => (h F).pt
theorem ft_not (ha : FT X a ta) : FT X (.UnaryOp .Not a pos) (notT ta) := fun F => PT.wk (pt_not (ha F)) fun σ H Q q => by
  obtain ⟨O, ρ, w, r, ρ', w', S, e, k⟩ := q
  refine tT_then S e fun b O1 ρ1 w1 H1 S1 e1 h1 => ?_
  cases h1
  exact k O1 H1 S1 e1
/-- as values: truth values but for the last -/
def andM (fa fb : M RV) : M RV := bindM (boolM fa) fun b => if b then fb else pureM (.sh (.bl false))
def orM (fa fb : M RV) : M RV := bindM (boolM fa) fun b => if b then pureM (.sh (.bl true)) else fb
def notM (fa : M RV) : M RV := bindM (boolM fa) fun b => pureM (.sh (.bl (!b)))
theorem boolM_then {c : Ct} {F : Fm} {O : List Addr} {ρ : Env} {w : W} {σ : L2.St} {H : Hp} {f : M RV} {β : Type} {k : Bool → M β} {z : β × Env × W} (S : SR c F O ρ w σ H) (h : bindM (boolM f) k ρ w = some z) {Q : VK}
    (q : ∀ b O1 ρ1 w1 H1, SR c F O1 ρ1 w1 σ H1 → Ex (vis O H) (vis O1 H1) → k b ρ1 w1 = some z → Q (.bl b) H1) : tE c F f σ H Q := by
  obtain ⟨b, ρ1, w1, e1, e2⟩ := bindM_some h
  refine tE_then S e1 fun x O1 ρ1' w1' H1 r1 S1 x1 R1 h1 => ?_
  obtain ⟨b', er, ez⟩ := boolM_some h1
  subst er
  cases ez
  cases R1
  exact q _ O1 _ _ H1 S1 x1 e2
theorem fe_one {op : BoolOp} (h : FE X a fa) : FE X (.BoolOp op [a] pos) fa := fun F => pe_one (h F)
theorem fe_and (ha : FE X a fa) (hb : FE X (.BoolOp .And (b :: rest) pos) fb) : FE X (.BoolOp .And (a :: b :: rest) pos) (andM fa fb) := fun F => PE.wk (pe_and (ha F) (hb F)) fun σ H Q q => by
  obtain ⟨O, ρ, w, r, ρ', w', S, e, k⟩ := q
  refine boolM_then S e fun b O1 ρ1 w1 H1 S1 e1 h1 => ⟨b, rfl, ?_⟩
  cases b with
  | true => exact ⟨O1, ρ1, w1, r, ρ', w', S1, h1, fun v O2 H2 S2 e2 R => k v O2 H2 S2 (e1.trans e2) (R.less e1)⟩
  | false =>
    cases h1
    exact k _ O1 H1 S1 e1 (Rep.bl false)
theorem fe_or (ha : FE X a fa) (hb : FE X (.BoolOp .Or (b :: rest) pos) fb) : FE X (.BoolOp .Or (a :: b :: rest) pos) (orM fa fb) := fun F => PE.wk (pe_or (ha F) (hb F)) fun σ H Q q => by
  obtain ⟨O, ρ, w, r, ρ', w', S, e, k⟩ := q
  refine boolM_then S e fun b O1 ρ1 w1 H1 S1 e1 h1 => ⟨b, rfl, ?_⟩
  cases b with
  | false => exact ⟨O1, ρ1, w1, r, ρ', w', S1, h1, fun v O2 H2 S2 e2 R => k v O2 H2 S2 (e1.trans e2) (R.less e1)⟩
  | true =>
    cases h1
    exact k _ O1 H1 S1 e1 (Rep.bl true)
theorem fe_not (ha : FE X a fa) : FE X (.UnaryOp .Not a pos) (notM fa) := fun F => PE.wk (pe_not (ha F)) fun σ H Q q => by
  obtain ⟨O, ρ, w, r, ρ', w', S, e, k⟩ := q
  refine boolM_then S e fun b O1 ρ1 w1 H1 S1 e1 h1 => ⟨b, rfl, ?_⟩
  cases h1
  exact k _ O1 H1 S1 e1 (Rep.bl _)
def ifM {α : Type} (t : M Bool) (f g : M α) : M α := bindM t fun b => if b then f else g
theorem fe_ifExp {t : Expr} (ht : FT X t ta) (ha : FE X a fa) (hb : FE X b fb) : FE X (.IfExp t a b pos) (ifM ta fa fb) := fun F => PE.wk (pe_ifExp (ht F) (ha F) (hb F)) fun σ H Q q => by
  obtain ⟨O, ρ, w, r, ρ', w', S, e, k⟩ := q
  refine tT_then S e fun b O1 ρ1 w1 H1 S1 e1 h1 => ?_
  cases b with
  | false => exact ⟨O1, ρ1, w1, r, ρ', w', S1, h1, fun v O2 H2 S2 e2 R => k v O2 H2 S2 (e1.trans e2) (R.less e1)⟩
  | true => exact ⟨O1, ρ1, w1, r, ρ', w', S1, h1, fun v O2 H2 S2 e2 R => k v O2 H2 S2 (e1.trans e2) (R.less e1)⟩

/-! ### argument lists -/
def consA (f : M RV) (g : M (List RV)) : M (List RV) := bindM f fun r => bindM g fun rs => pureM (r :: rs)
theorem fa_nil : FA X [] (pureM []) := ⟨fun F => PA.wk pa_nil fun σ H Q q => by
  obtain ⟨O, ρ, w, r, ρ', w', S, e, k⟩ := q
  cases e
  exact k [] O H S (Ex.refl _) .nil, fun ρ w rs ρ' w' h => by cases h; rfl⟩
theorem fa_cons {es : List Expr} {g : M (List RV)} (ha : FE X e fe) (hr : FA X es g) (hs : starEach (e :: es) X.env = (false, eval e X.env) :: starEach es X.env := by rfl) : FA X (e :: es) (consA fe g) := ⟨fun F => PA.wk (pa_cons (ha F) (hr.run F) hs) fun σ H Q q => by
  obtain ⟨O, ρ, w, r, ρ', w', S, e, k⟩ := q
  refine tE_then S e fun x O1 ρ1 w1 H1 r1 S1 e1 R1 h1 => ?_
  refine tA_then S1 h1 fun vs O2 ρ2 w2 H2 rs S2 e2 R2 _ h2 => ?_
  cases h2
  exact k (x :: vs) O2 H2 S2 (e1.trans e2) (.cons (R1.hold.mono e2) R2), fun ρ w rs ρ' w' h => by
    obtain ⟨r, ρ1, w1, _, h1⟩ := bindM_some h
    obtain ⟨rs', ρ2, w2, h2, h3⟩ := bindM_some h1
    cases h3
    simp [hr.len _ _ _ _ _ h2]⟩

/-! ### what escapes -/
def escR : RV → M D
  | .sh d => pureM d
  | .fr d => pureM d
  | .ow i => fun ρ w => match ρ[i]? with
    | some (some (.own d)) => some (d, ρ.set i (some (.val d)), w)
    | some (some (.val d)) => some (d, ρ, w)
    | _ => none
def escAll : List RV → M (List D)
  | [] => pureM []
  | r :: rs => bindM (escR r) fun d => bindM (escAll rs) fun ds => pureM (d :: ds)
end

section
variable {c : Ct} {F : Fm} {O : List Addr} {ρ : Env} {w : W} {σ : L2.St} {H : Hp}
theorem getElem?_set_some {α : Type} {l : List α} {i j : Nat} {x y : α} (h : (l.set i x)[j]? = some y) : (i = j ∧ x = y) ∨ (i ≠ j ∧ l[j]? = some y) := by
  by_cases e : i = j
  · subst e
    by_cases hl : i < l.length
    · rw [List.getElem?_set_self hl] at h
      exact .inl ⟨rfl, Option.some.inj h⟩
    · rw [List.getElem?_eq_none (by simpa using hl)] at h
      cases h
  · rw [List.getElem?_set_ne e] at h
    exact .inr ⟨e, h⟩
/-- an owned thing is given away: from now on it is only looked at -/
theorem SR.freeze {i : Nat} {d : D} (S : SR c F O ρ w σ H) (h : ρ[i]? = some (some (Slot.own d))) :
    ∃ a O', σ[i]? = some (some (V.ref a)) ∧ SR c F O' (ρ.set i (some (.val d))) w σ H ∧ Ex (vis O H) (vis O' H) ∧ Rep c F.dr.da (vis O' H) (.ref a) d := by
  obtain ⟨a, o, h1, h2, h3, h4, h5⟩ := S.own i d h
  have sub : ∀ b, b ∈ O.filter (fun b => decide (b ≠ a)) ↔ b ∈ O ∧ b ≠ a := fun b => by simp [List.mem_filter]
  have k : Ex (vis O H) (vis (O.filter (fun b => decide (b ≠ a))) H) := vis_sub fun b hb => ((sub b).mp hb).1
  have na : a ∉ O.filter (fun b => decide (b ≠ a)) := fun z => ((sub a).mp z).2 rfl
  have rp : Rep c F.dr.da (vis (O.filter (fun b => decide (b ≠ a))) H) (.ref a) d := (h5.mono k).rep (by rw [vis_out na]; exact h4)
  refine ⟨a, _, h1, ⟨by rw [List.length_set]; exact S.len, S.base, fun b hb => S.new b ((sub b).mp hb).1, fun b hb => (sub b).mpr ⟨S.sub b hb, fun z => h3 (z ▸ hb)⟩, S.drs, fun b hb => S.trk b ((sub b).mp hb).1, S.draw, fun j e q => ?_, fun j e q => ?_, fun j j' e e' b q q' => ?_⟩, k, rp⟩
  · rcases getElem?_set_some q with ⟨rfl, z⟩ | ⟨_, q⟩
    · cases z
      exact ⟨_, h1, rp⟩
    · obtain ⟨v, q1, q2⟩ := S.val j e q
      exact ⟨v, q1, q2.mono k⟩
  · rcases getElem?_set_some q with ⟨rfl, z⟩ | ⟨ne, q⟩
    · cases z
    · obtain ⟨b, u, q1, q2, q3, q4, q5⟩ := S.own j e q
      refine ⟨b, u, q1, (sub b).mpr ⟨q2, fun z => ?_⟩, q3, q4, q5.mono k⟩
      rw [z] at q1
      exact ne (S.uni i j d e a h q h1 q1)
  · rcases getElem?_set_some q with ⟨rfl, z⟩ | ⟨ne, q⟩
    · cases z
    · rcases getElem?_set_some q' with ⟨rfl, z⟩ | ⟨ne', q'⟩
      · cases z
      · exact S.uni j j' e e' b q q'
theorem escR_ok {r : RV} {v : V} {d : D} {ρ' : Env} {w' : W} (S : SR c F O ρ w σ H) (h : Hold c F O σ H r v) (e : escR r ρ w = some (d, ρ', w')) :
    w' = w ∧ ∃ O', SR c F O' ρ' w σ H ∧ Ex (vis O H) (vis O' H) ∧ Rep c F.dr.da (vis O' H) v d := by
  cases r with
  | sh d' =>
    cases e
    exact ⟨rfl, O, S, Ex.refl _, h⟩
  | fr d' =>
    cases e
    exact ⟨rfl, O, S, Ex.refl _, h⟩
  | ow i =>
    have h' : σ[i]? = some (some v) := h
    simp only [escR] at e
    split at e
    · rename_i d' q
      cases e
      obtain ⟨a, O', h1, S', k, r⟩ := S.freeze q
      rw [h'] at h1
      cases h1
      exact ⟨rfl, O', S', k, r⟩
    · rename_i d' q
      cases e
      obtain ⟨u, h1, h2⟩ := S.val i _ q
      rw [h'] at h1
      cases h1
      exact ⟨rfl, O, S, Ex.refl _, h2⟩
    · cases e
theorem escAll_ok : ∀ {rs : List RV} {vs : List V} {ds : List D} {ρ : Env} {ρ' : Env} {w' : W} {O : List Addr}, SR c F O ρ w σ H → HoldAll c F O σ H rs vs → escAll rs ρ w = some (ds, ρ', w') →
    w' = w ∧ ∃ O', SR c F O' ρ' w σ H ∧ Ex (vis O H) (vis O' H) ∧ RepAll c F.dr.da (vis O' H) vs ds
  | _, _, _, _, _, _, O, S, .nil, e => by
    cases e
    exact ⟨rfl, O, S, Ex.refl _, .nil⟩
  | _, _, _, _, _, _, O, S, .cons h hr, e => by
    obtain ⟨d, ρ1, w1, e1, e2⟩ := bindM_some e
    obtain ⟨ds, ρ2, w2, e3, e4⟩ := bindM_some e2
    obtain ⟨ew, O1, S1, k1, r1⟩ := escR_ok S h e1
    rw [ew] at e3
    obtain ⟨ew2, O2, S2, k2, r2⟩ := escAll_ok S1 (hr.mono k1) e3
    cases e4
    exact ⟨ew2, O2, S2, k1.trans k2, .cons (r1.mono k2) r2⟩
end
section
variable {X : Cx} {es : List Expr} {pos : Pos} {fa : M (List RV)}
def tupM (fa : M (List RV)) : M RV := bindM fa fun rs => bindM (escAll rs) fun ds => pureM (.sh (.tup ds))
def lstM (fa : M (List RV)) : M RV := bindM fa fun rs => bindM (escAll rs) fun ds => pureM (.fr (.lst ds))
theorem small_fits {n : Nat} (h : n ≤ 1000000) : n ≤ sizeLine := Nat.le_trans h (by decide)
theorem fe_tup {x1 : Nat} (h : FA X es fa) (hl : es.length ≤ 1000000 := by decide) : FE X (.Tuple es x1 pos) (tupM fa) := fun F => PE.wk (pe_tup (h.run F)) fun σ H Q q => by
  obtain ⟨O, ρ, w, r, ρ', w', S, e, k⟩ := q
  refine tA_then S e fun vs O1 ρ1 w1 H1 rs S1 e1 R1 f1 h1 => ?_
  obtain ⟨ds, ρ2, w2, h2, h3⟩ := bindM_some h1
  obtain ⟨rfl, O2, S2, k2, r2⟩ := escAll_ok S1 R1 h2
  cases h3
  have hv : vs.length ≤ 1000000 := by rw [← R1.length, h.len _ _ _ _ _ f1]; exact hl
  refine ⟨small_fits hv, fun p np => ?_⟩
  have x2 : Ex H1 (upd H1 p (.tup vs)) := Ex.new np
  have nO : p ∉ O2 := fun z => by
    obtain ⟨o, q, _⟩ := S2.trk p z
    rw [np] at q
    cases q
  refine k _ O2 _ (S2.grow x2) ((e1.trans k2).trans (vis_mono x2)) (.tup ?_ (r2.mono (vis_mono x2)))
  rw [vis_out nO]
  exact upd_same
theorem fe_lst (h : FA X es fa) (hl : es.length ≤ 1000000 := by decide) : FE X (.List es pos) (lstM fa) := fun F => PE.wk (pe_lst (h.run F)) fun σ H Q q => by
  obtain ⟨O, ρ, w, r, ρ', w', S, e, k⟩ := q
  refine tA_then S e fun vs O1 ρ1 w1 H1 rs S1 e1 R1 f1 h1 => ?_
  obtain ⟨ds, ρ2, w2, h2, h3⟩ := bindM_some h1
  obtain ⟨rfl, O2, S2, k2, r2⟩ := escAll_ok S1 R1 h2
  cases h3
  have hv : vs.length ≤ 1000000 := by rw [← R1.length, h.len _ _ _ _ _ f1]; exact hl
  refine ⟨small_fits hv, fun p np => ?_⟩
  have x2 : Ex H1 (upd H1 p (.lst vs)) := Ex.new np
  obtain ⟨S3, n3, k3⟩ := S2.hide np x2 upd_same
  exact k _ O2 _ (S2.grow x2) ((e1.trans k2).trans (vis_mono x2)) ⟨p, _, rfl, n3, S3, upd_same, .inl ⟨vs, ds, rfl, rfl, r2.mono k3⟩, (e1.trans k2).trans k3⟩
end
end FD

end sec_FD2
section sec_FD3
set_option maxRecDepth 100000
set_option maxHeartbeats 5000000
/-! FD3: calls, objects, statements, loops. -/
namespace FD
open PySem L2
variable [Tabl]

/-- all but the draws is kept -/
def Kp (dr : Dr) (H H' : Hp) : Prop := ∀ a o, H a = some o → a ∉ dr.as → H' a = some o
/-- a def's promise in plain data -/
def spD (c : Ct) (n : Nat) (den : List D → W → Option (RV × W)) : Sp := fun vs H Q _ => ∃ dr O0 w ds r w', (∀ a ∈ dr.as, a ∈ O0) ∧ (∀ a ∈ O0, ∃ o, H a = some o ∧ NT o) ∧ DrawAt dr w H ∧ RepAll c dr.da (vis O0 H) vs ds ∧ ds.length = n ∧ den ds w = some (r, w') ∧
  ∀ v H', Kp dr H H' → DrawAt dr w' H' → RepN c dr.da O0 H H' r v → Q v H'

section
variable {c : Ct} {F : Fm} {O : List Addr} {ρ : Env} {w w' : W} {σ : L2.St} {H H' : Hp} {r : RV} {v : V}
theorem DrawAt.mem {dr : Dr} {a : Addr} (h : DrawAt dr w H) (m : a ∈ dr.as) : ∃ o, H a = some o ∧ NT o := by
  rcases List.mem_append.mp m with m | m
  · unfold Dr.ds at m
    split at m
    · rename_i t e
      obtain ⟨q1, q2, q3, _⟩ := h.1 t e
      simp only [List.mem_cons, List.not_mem_nil, or_false] at m
      rcases m with rfl | rfl | rfl
      · exact ⟨_, q1, fun _ z => nomatch z⟩
      · exact ⟨_, q2, fun _ z => nomatch z⟩
      · exact ⟨_, q3, fun _ z => nomatch z⟩
    · cases m
  · obtain ⟨p, hp, rfl⟩ := List.mem_map.mp m
    obtain ⟨ps, e, _⟩ := h.2 p hp
    exact ⟨_, e, fun _ z => nomatch z⟩
theorem vis_kp {dr : Dr} (hd : ∀ a ∈ dr.as, a ∈ O) (k : Kp dr H H') : Ex (vis O H) (vis O H') := fun b o h => by
  obtain ⟨n, q⟩ := vis_some h
  rw [vis_out n]
  exact k b o q fun z => n (hd b z)
theorem SR.drO (S : SR c F O ρ w σ H) : ∀ a ∈ F.dr.as, a ∈ O := fun a h => S.sub a (S.drs a h)
theorem SR.kept (S : SR c F O ρ w σ H) (k : Kp F.dr H H') (hw : DrawAt F.dr w' H') : SR c F O ρ w' σ H' where
  len := S.len
  base := fun a o h n => k _ _ (S.base a o h n) n
  new := S.new
  sub := S.sub
  drs := S.drs
  trk := fun a h => by
    by_cases q : a ∈ F.dr.as
    · exact hw.mem q
    · obtain ⟨o, e, nt⟩ := S.trk a h
      exact ⟨o, k _ _ e q, nt⟩
  draw := hw
  val := fun i d h => let ⟨v, h1, h2⟩ := S.val i d h; ⟨v, h1, h2.mono (vis_kp S.drO k)⟩
  own := fun i d h => let ⟨a, o, h1, h2, h3, h4, h5⟩ := S.own i d h; ⟨a, o, h1, h2, h3, k _ _ h4 fun z => h3 (S.drs a z), h5.mono (vis_kp S.drO k)⟩
  uni := S.uni
theorem SR.hideK {a : Addr} {o : HO} (S : SR c F O ρ w σ H) (n : H a = none) (k : Kp F.dr H H') (hw : DrawAt F.dr w' H') (q : H' a = some o) (nt : NT o) : SR c F (a :: O) ρ w' σ H' ∧ a ∉ O ∧ Ex (vis O H) (vis (a :: O) H') := by
  have S' := S.kept k hw
  have nO : a ∉ O := fun z => by
    obtain ⟨u, hu, _⟩ := S.trk a z
    rw [n] at hu
    cases hu
  have k : Ex (vis O H) (vis (a :: O) H') := fun b u hb => by
    obtain ⟨m, hb⟩ := vis_some hb
    rw [vis_out fun z => ?_]
    · exact k _ _ hb fun z => m (S.drO b z)
    · rcases List.mem_cons.mp z with z | z
      · rw [z, n] at hb
        cases hb
      · exact m z
  refine ⟨⟨S.len, S'.base, fun b h m => ?_, fun b h => List.mem_cons_of_mem _ (S.sub b h), S.drs, fun b h => ?_, S'.draw, fun i d h => ?_, fun i d h => ?_, S'.uni⟩, nO, k⟩
  · rcases List.mem_cons.mp h with z | z
    · subst z
      cases z : F.H0 b with
      | none => rfl
      | some u =>
        have nd : b ∉ F.dr.as := fun y => m (S.drs b y)
        rw [S.base b u z nd] at n
        cases n
    · exact S.new b z m
  · rcases List.mem_cons.mp h with z | z
    · rw [z]
      exact ⟨o, q, nt⟩
    · exact S'.trk b z
  · obtain ⟨u, h1, h2⟩ := S.val i d h
    exact ⟨u, h1, h2.mono k⟩
  · obtain ⟨b, u, h1, h2, h3, h4, h5⟩ := S.own i d h
    obtain ⟨b', u', h1', _, _, h4', _⟩ := S'.own i d h
    rw [h1] at h1'
    cases h1'
    refine ⟨b, u', h1, List.mem_cons_of_mem _ h2, h3, h4', ?_⟩
    have e : u' = u := by
      have nb : b ∉ F.dr.as := fun z => h3 (S.drs b z)
      have z := ‹Kp F.dr H H'› _ _ h4 nb
      rw [z] at h4'
      exact (Option.some.inj h4').symm
    rw [e]
    exact h5.mono k
theorem RepN.outK (S : SR c F O ρ w σ H) (k : Kp F.dr H H') (hw : DrawAt F.dr w' H') (h : RepN c F.dr.da O H H' r v) : RepR c F (vis O H) O ρ w' σ H' r v := by
  cases r with
  | sh d => exact h
  | ow i => exact h.elim
  | fr d =>
    obtain ⟨a, o, rfl, n, q, ob⟩ := h
    obtain ⟨S1, n1, k1⟩ := S.hideK n k hw q ob.nt
    exact ⟨a, o, rfl, n1, S1, q, ob, k1⟩
end

/-! ### forms of calls -/
/-- no argument is starred -/
abbrev Plain1 (X : Cx) (e : Expr) (es : List Expr) : Prop := starEach (e :: es) X.env = (false, eval e X.env) :: starEach es X.env
abbrev PlainR (X : Cx) (es : List Expr) (pos : Pos) : Prop := (backTo pos (starEach es X.env)).any (·.1) = false
abbrev NotDebug (x : Str) : Prop := (x == ("__debug__" : Str)) = false
/-- o.m(es) is run as the call of a method -/
abbrev MethRun (X : Cx) (o : Expr) (m : Str) (es : List Expr) (apos pos : Pos) (pl : Sem Bool) : Prop := eval (.Call (.Attribute o m apos) es [] pos) X.env = (do
  let self ← eval o X.env
  standAt apos.atName
  let (g, one) ← holding [self] (getMethod self m pl)
  callWith pos g one (backTo pos (starEach es X.env)) (backToKw pos (keywordEach [] X.env)))
/-! ### calls -/
structure CalD (P : Program) (w : World) (K : PySem.W.Frag) (mg : Str → Option Value) (base : Heap) (k : Nat) (x : Str) (n : Nat) (dd : List D) (den : List D → W → Option (RV × W)) : Prop where
  ex : ∃ (f : Addr) (fd : FuncData) (ps : List Str) (ds : List Value) (dvs : List V), FnOk P w K mg base CX0 k f fd ps (spD ⟨K, mg⟩ n den) ∧ mg x = some (.ref f) ∧ PySem.W.keepIn K (.ref f) = true ∧ Binds K fd ps ds ∧ Vals dvs ds ∧ ∀ da G, RepAll ⟨K, mg⟩ da G dvs dd
/-- a method m of the class cn -/
structure MetD (P : Program) (w : World) (K : PySem.W.Frag) (mg : Str → Option Value) (base : Heap) (k : Nat) (cn m : Str) (n : Nat) (dd : List D) (den : List D → W → Option (RV × W)) : Prop where
  ex : ∃ (C f : Addr) (fd : FuncData) (ps : List Str) (ds : List Value) (dvs : List V), mg cn = some (.ref C) ∧ Cls K C ∧ Meth K C m f ∧ FnOk P w K mg base CX0 k f fd ps (spD ⟨K, mg⟩ n den) ∧ Binds K fd ps ds ∧ Vals dvs ds ∧ ∀ da G, RepAll ⟨K, mg⟩ da G dvs dd
/-- a property of the class cn -/
structure PrpD (P : Program) (w : World) (K : PySem.W.Frag) (mg : Str → Option Value) (base : Heap) (k : Nat) (cn m : Str) (den : List D → W → Option (RV × W)) : Prop where
  ex : ∃ (C p g : Addr) (fd : FuncData) (ps : List Str), mg cn = some (.ref C) ∧ Cls K C ∧ PropOf K C m p g ∧ FnOk P w K mg base CX0 k g fd ps (spD ⟨K, mg⟩ 1 den) ∧ Binds K fd ps []
/-- an attribute of the class cn -/
structure FldD (K : PySem.W.Frag) (mg : Str → Option Value) (cn f : Str) : Prop where
  ex : ∃ C, mg cn = some (.ref C) ∧ Cls K C ∧ NoAttr K C f
def runD (den : List D → W → Option (RV × W)) (ds : List D) : M RV := fun ρ w => match den ds w with
  | some (r, w') => some (r, ρ, w')
  | none => none
theorem runD_some {den : List D → W → Option (RV × W)} {ds : List D} {ρ : Env} {w : W} {z : RV × Env × W} (h : runD den ds ρ w = some z) : ∃ r w', den ds w = some (r, w') ∧ z = (r, ρ, w') := by
  unfold runD at h
  split at h
  · rename_i r w' e
    exact ⟨r, w', e, (Option.some.inj h).symm⟩
  · cases h
def callM (den : List D → W → Option (RV × W)) (dd : List D) (fa : M (List RV)) : M RV := bindM fa fun rs => bindM (escAll rs) fun ds => runD den (ds ++ dd)
def alt {α : Type} (f g : M α) : M α := fun ρ w => match f ρ w with
  | some z => some z
  | none => g ρ w
theorem RepAll.len2 {c : Ct} {da : Option Addr} {G : Hp} {vs : List V} {ds : List D} (h : RepAll c da G vs ds) : ds.length = vs.length := h.length.symm
section
variable {X : Cx} {e o : Expr} {es : List Expr} {pos p apos : Pos} {x m f cn : Str} {k j n : Nat} {dd : List D} {den : List D → W → Option (RV × W)} {fa : M (List RV)} {fo fe fe' : M RV}
theorem fe_alt (h1 : FE X e fe) (h2 : FE X e fe') : FE X e (alt fe fe') := fun F => ⟨fun pins s σ H Q I q => by
  obtain ⟨O, ρ, w, r, ρ', w', S, e, k⟩ := q
  unfold alt at e
  split at e
  · rename_i z ez
    cases e
    exact (h1 F).run pins s σ H Q I ⟨O, ρ, w, r, ρ', w', S, ez, k⟩
  · exact (h2 F).run pins s σ H Q I ⟨O, ρ, w, r, ρ', w', S, e, k⟩⟩
theorem sp_of {c : Ct} {F : Fm} {O : List Addr} {ρ : Env} {w w' : W} {σ : L2.St} {H : Hp} {vs : List V} {ds : List D} {r : RV} {Q : VK} {E : XK} {n : Nat} (S : SR c F O ρ w σ H) (hr : RepAll c F.dr.da (vis O H) vs ds) (hn : ds.length = n) (hd : den ds w = some (r, w'))
    (q : ∀ v H', SR c F O ρ w' σ H' → Ex (vis O H) (vis O H') → RepR c F (vis O H) O ρ w' σ H' r v → Q v H') : spD c n den vs H Q E :=
  ⟨F.dr, O, w, ds, r, w', S.drO, S.trk, S.draw, hr, hn, hd, fun v H' k hw n => q v H' (S.kept k hw) (vis_kp S.drO k) (n.outK S k hw)⟩
/-- f(..) -/
theorem fe_call (cl : CalD X.prog X.w X.K X.mg X.base k x n dd den) (hr : Room j X.A) (hg : Gl X x) (ha : FA X (e :: es) fa) (hk : k ≤ j := by decide) (hn : (e :: es).length + dd.length = n := by rfl)
    (hdb : NotDebug x := by decide) (he : Plain1 X e es := by rfl) (hpl : PlainR X es pos := by rfl) :
    FE X (.Call (.Name x p) (e :: es) [] pos) (callM den dd fa) := fun F => by
  obtain ⟨f, fd, ps, ds, dvs, FO, hm, kp, b, d, rd⟩ := cl.ex
  refine PE.wk (pe_call FO (hr.mono hk) hg hm kp b d pass0 (ha.run F) hdb he hpl) fun σ H Q q => ?_
  obtain ⟨O, ρ, w, r, ρ', w', S, e, k⟩ := q
  refine tA_then S e fun vs O1 ρ1 w1 H1 rs S1 e1 R1 f1 h1 => ?_
  obtain ⟨ds1, ρ2, w2, h2, h3⟩ := bindM_some h1
  obtain ⟨rfl, O2, S2, k2, r2⟩ := escAll_ok S1 R1 h2
  obtain ⟨r', w3, h4, ez⟩ := runD_some h3
  cases ez
  refine sp_of (E := E0) S2 (r2.append (rd _ _)) ?_ h4 fun v H' S3 e3 R3 => k v O2 H' S3 ((e1.trans k2).trans e3) (R3.less (e1.trans k2))
  rw [List.length_append, r2.len2, ← R1.length, ha.len _ _ _ _ _ f1]
  exact hn
/-- f() -/
theorem fe_call0 (cl : CalD X.prog X.w X.K X.mg X.base k x n dd den) (hr : Room j X.A) (hg : Gl X x) (hk : k ≤ j := by decide) (hn : dd.length = n := by rfl) (hdb : NotDebug x := by decide) :
    FE X (.Call (.Name x p) [] [] pos) (runD den dd) := fun F => by
  obtain ⟨f, fd, ps, ds, dvs, FO, hm, kp, b, d, rd⟩ := cl.ex
  refine PE.wk (pe_call0 FO (hr.mono hk) hg hm kp b d pass0 hdb) fun σ H Q q => ?_
  obtain ⟨O, ρ, w, r, ρ', w', S, e, k⟩ := q
  obtain ⟨r', w3, h4, ez⟩ := runD_some e
  cases ez
  exact sp_of (E := E0) S (rd _ _) hn h4 fun v H' S3 e3 R3 => k v O H' S3 e3 R3
/-- the receiver: an instance of cn whose own attributes do not hide m -/
def selfR (cn m : Str) (r : RV) : M D := bindM (escR r) fun d => match d with
  | .ins c' gs => if c' = cn ∧ gs.lookup m = none then pureM d else failM
  | _ => failM
def methM (cn m : Str) (den : List D → W → Option (RV × W)) (dd : List D) (fo : M RV) (fa : M (List RV)) : M RV :=
  bindM fo fun r => bindM (selfR cn m r) fun d => bindM fa fun rs => bindM (escAll rs) fun ds => runD den (d :: (ds ++ dd))
theorem selfR_ok {c : Ct} {F : Fm} {O : List Addr} {ρ ρ' : Env} {w w' : W} {σ : L2.St} {H : Hp} {r : RV} {v : V} {d : D} (S : SR c F O ρ w σ H) (h : Hold c F O σ H r v) (e : selfR cn m r ρ w = some (d, ρ', w')) :
    w' = w ∧ ∃ O' a C dx fs, SR c F O' ρ' w σ H ∧ Ex (vis O H) (vis O' H) ∧ Rep c F.dr.da (vis O' H) v d ∧ v = .ref a ∧ H a = some (.ins C dx fs) ∧ c.mg cn = some (.ref C) ∧ fs.lookup m = none := by
  obtain ⟨d1, ρ1, w1, e1, e2⟩ := bindM_some e
  obtain ⟨ew, O', S', k, r'⟩ := escR_ok S h e1
  cases id r' with
  | @ins a C dx fs c' gs ea mc rf =>
    dsimp only at e2
    by_cases q : c' = cn ∧ gs.lookup m = none
    · rw [if_pos q] at e2
      cases e2
      obtain ⟨rfl, q2⟩ := q
      exact ⟨ew, O', _, _, _, _, S', k, r', rfl, vis_ex _ _ ea, mc, rf.none q2⟩
    · rw [if_neg q] at e2
      cases e2
  | _ => cases e2
theorem fe_meth {pl : Sem Bool} (cl : MetD X.prog X.w X.K X.mg X.base k cn m n dd den) (hr : Room j X.A) (ho : FE X o fo) (ha : FA X (e :: es) fa) (hk : k ≤ j := by decide) (hn : 1 + ((e :: es).length + dd.length) = n := by rfl)
    (hst : Plain1 X e es := by rfl) (hpl : PlainR X es pos := by rfl) (ht : MethRun X o m (e :: es) apos pos pl := by rfl) :
    FE X (.Call (.Attribute o m apos) (e :: es) [] pos) (methM cn m den dd fo fa) := fun F => by
  obtain ⟨C, f, fd, ps, ds, dvs, mc, cls, me, FO, b, d, rd⟩ := cl.ex
  refine PE.wk (pe_meth (pl := pl) (ho F) cls me FO (hr.mono hk) b d pass0 (ha.run F) hst hpl ht) fun σ H Q q => ?_
  obtain ⟨O, ρ, w, r, ρ', w', S, e, k⟩ := q
  refine tE_then S e fun x O1 ρ1 w1 H1 r1 S1 e1 R1 h1 => ?_
  obtain ⟨d1, ρ2, w2, h2, h3⟩ := bindM_some h1
  obtain ⟨rfl, O2, a, C', dx, fs, S2, k2, r2, ex, ea, mc', fl⟩ := selfR_ok S1 R1.hold h2
  have eC : C' = C := by
    have z : X.mg cn = some (.ref C') := mc'
    rw [mc] at z
    cases z
    rfl
  subst eC
  refine ⟨a, dx, fs, ex, ea, fl, ?_⟩
  refine tA_then S2 h3 fun vs O3 ρ3 w3 H3 rs S3 e3 R3 f3 h4 => ?_
  obtain ⟨ds1, ρ4, w4, h5, h6⟩ := bindM_some h4
  obtain ⟨rfl, O4, S4, k4, r4⟩ := escAll_ok S3 R3 h5
  obtain ⟨r', w5, h7, ez⟩ := runD_some h6
  cases ez
  refine sp_of (E := E0) S4 (.cons (r2.mono (e3.trans k4)) (r4.append (rd _ _))) ?_ h7 fun v H' S5 e5 R5 => k v O4 H' S5 ((((e1.trans k2).trans e3).trans k4).trans e5) (R5.less (((e1.trans k2).trans e3).trans k4))
  rw [List.length_cons, List.length_append, r4.len2, ← R3.length, ha.len _ _ _ _ _ f3, Nat.add_comm]
  exact hn
theorem fe_meth0 {pl : Sem Bool} (cl : MetD X.prog X.w X.K X.mg X.base k cn m n dd den) (hr : Room j X.A) (ho : FE X o fo) (hk : k ≤ j := by decide) (hn : 1 + dd.length = n := by rfl)
    (ht : MethRun X o m [] apos pos pl := by rfl) :
    FE X (.Call (.Attribute o m apos) [] [] pos) (bindM fo fun r => bindM (selfR cn m r) fun d => runD den (d :: dd)) := fun F => by
  obtain ⟨C, f, fd, ps, ds, dvs, mc, cls, me, FO, b, d, rd⟩ := cl.ex
  refine PE.wk (pe_meth0 (pl := pl) (ho F) cls me FO (hr.mono hk) b d pass0 ht) fun σ H Q q => ?_
  obtain ⟨O, ρ, w, r, ρ', w', S, e, k⟩ := q
  refine tE_then S e fun x O1 ρ1 w1 H1 r1 S1 e1 R1 h1 => ?_
  obtain ⟨d1, ρ2, w2, h2, h3⟩ := bindM_some h1
  obtain ⟨rfl, O2, a, C', dx, fs, S2, k2, r2, ex, ea, mc', fl⟩ := selfR_ok S1 R1.hold h2
  have eC : C' = C := by
    have z : X.mg cn = some (.ref C') := mc'
    rw [mc] at z
    cases z
    rfl
  subst eC
  refine ⟨a, dx, fs, ex, ea, fl, ?_⟩
  obtain ⟨r', w5, h7, ez⟩ := runD_some h3
  cases ez
  refine sp_of (E := E0) (vs := x :: ([] ++ dvs)) S2 (.cons r2 (rd _ _)) ?_ h7 fun v H' S5 e5 R5 => k v O2 H' S5 ((e1.trans k2).trans e5) (R5.less (e1.trans k2))
  rw [List.length_cons, Nat.add_comm]
  exact hn
/-- o.m, a property -/
theorem fe_prop (cl : PrpD X.prog X.w X.K X.mg X.base k cn m den) (hr : Room j X.A) (ho : FE X o fo) (hk : k + 1 ≤ j := by decide) (hab : attributeBase o m X.env (eval o X.env) = eval o X.env := by rfl) :
    FE X (.Attribute o m pos) (bindM fo fun r => bindM (escR r) fun d => match d with
      | .ins c' gs => if c' = cn then runD den [d] else failM
      | _ => failM) := fun F => by
  obtain ⟨C, p, g, fd, ps, mc, cls, pr, FO, b⟩ := cl.ex
  refine PE.wk (pe_prop (ho F) cls pr FO (hr.mono hk) b .nil pass0 hab) fun σ H Q q => ?_
  obtain ⟨O, ρ, w, r, ρ', w', S, e, k⟩ := q
  refine tE_then S e fun x O1 ρ1 w1 H1 r1 S1 e1 R1 h1 => ?_
  obtain ⟨d1, ρ2, w2, h2, h3⟩ := bindM_some h1
  obtain ⟨rfl, O2, S2, k2, r2⟩ := escR_ok S1 R1.hold h2
  cases id r2 with
  | @ins a C' dx fs c' gs ea mc' rf =>
    dsimp only at h3
    by_cases z : c' = cn
    · subst z
      rw [if_pos rfl] at h3
      have eC : C' = C := by
        have z : X.mg c' = some (.ref C') := mc'
        rw [mc] at z
        cases z
        rfl
      subst eC
      refine ⟨a, dx, fs, rfl, vis_ex _ _ ea, ?_⟩
      obtain ⟨r', w5, h7, ez⟩ := runD_some h3
      cases ez
      exact sp_of (E := E0) (vs := [.ref a]) S2 (.cons r2 .nil) rfl h7 fun v H' S5 e5 R5 => k v O2 H' S5 ((e1.trans k2).trans e5) (R5.less (e1.trans k2))
    · rw [if_neg z] at h3
      cases h3
  | _ => cases h3
/-- o.f, an attribute -/
def fldD (cn f : Str) : D → Option RV
  | .ins c' gs => if c' = cn then (gs.lookup f).map .sh else none
  | _ => none
theorem fe_fld (cl : FldD X.K X.mg cn f) (ho : FE X o fo) (hb : attributeBase o f X.env (eval o X.env) = eval o X.env := by rfl) : FE X (.Attribute o f pos) (op1M (fldD cn f) fo) := fun F => by
  obtain ⟨C, mc, cls, na⟩ := cl.ex
  refine PE.wk (pe_fld (ho F) hb) fun σ H Q q => ?_
  obtain ⟨O, ρ, w, r, ρ', w', S, e, k⟩ := q
  refine tE_then S e fun x O1 ρ1 w1 H1 r1 S1 e1 R1 h1 => ?_
  obtain ⟨d1, r', p1, eg, ez⟩ := lift1_some h1
  cases ez
  have P := R1.hold.peek S1 p1
  cases d1 with
  | ins c' gs =>
    obtain ⟨a, C', dx, fs, rfl, ea, mc', rf⟩ := P.ins
    unfold fldD at eg
    dsimp only at eg
    by_cases z : c' = cn
    · subst z
      rw [if_pos rfl] at eg
      have eC : C' = C := by
        have z : X.mg c' = some (.ref C') := mc'
        rw [mc] at z
        cases z
        rfl
      subst eC
      cases q : gs.lookup f with
      | none =>
        rw [q] at eg
        cases eg
      | some d =>
        rw [q] at eg
        cases eg
        obtain ⟨v, h1, h2⟩ := rf.lookup q
        exact ⟨a, C', dx, fs, v, rfl, ea, cls, na, h1, k v O1 H1 S1 e1 h2⟩
    · rw [if_neg z] at eg
      cases eg
  | _ => cases eg
end
end FD

end sec_FD3
section sec_FD4
set_option maxRecDepth 100000
set_option maxHeartbeats 5000000
/-! FD4: statements. -/
namespace FD
open PySem L2
variable [Tabl]

section
variable {c : Ct} {F : Fm} {G : Hp} {O : List Addr} {ρ ρ' : Env} {w w' : W} {σ : L2.St} {H : Hp} {r : RV} {v : V} {d : D} {i : Nat}
theorem SR.setVal (S : SR c F O ρ w σ H) (i : Nat) (r : Rep c F.dr.da (vis O H) v d) : SR c F O (ρ.set i (some (.val d))) w (σ.set i (some v)) H where
  len := by rw [List.length_set, List.length_set]; exact S.len
  base := S.base
  new := S.new
  sub := S.sub
  drs := S.drs
  trk := S.trk
  draw := S.draw
  val := fun j e h => by
    rcases getElem?_set_some h with ⟨rfl, z⟩ | ⟨n, h⟩
    · cases z
      have hl : i < ρ.length := by
        have := (List.getElem?_eq_some_iff.mp h).1
        rw [List.length_set] at this
        exact this
      exact ⟨v, List.getElem?_set_self (by rw [← S.len]; exact hl), r⟩
    · obtain ⟨u, h1, h2⟩ := S.val j e h
      exact ⟨u, by rw [List.getElem?_set_ne n]; exact h1, h2⟩
  own := fun j e h => by
    rcases getElem?_set_some h with ⟨rfl, z⟩ | ⟨n, h⟩
    · cases z
    · obtain ⟨a, o, h1, h2⟩ := S.own j e h
      exact ⟨a, o, by rw [List.getElem?_set_ne n]; exact h1, h2⟩
  uni := fun j j' e e' a h h' q q' => by
    rcases getElem?_set_some h with ⟨rfl, z⟩ | ⟨n, h⟩
    · cases z
    · rcases getElem?_set_some h' with ⟨rfl, z⟩ | ⟨n', h'⟩
      · cases z
      · rw [List.getElem?_set_ne n] at q
        rw [List.getElem?_set_ne n'] at q'
        exact S.uni j j' e e' a h h' q q'
/-- a hidden thing that no slot owns gets its slot -/
theorem SR.setOwn {a : Addr} {o : HO} (S : SR c F O ρ w σ H) (i : Nat) (hO : a ∈ O) (h0 : a ∉ F.O0) (q : H a = some o) (ob : Obj c F.dr.da (vis O H) o d) (nu : ∀ (j : Nat) e, ρ[j]? = some (some (Slot.own e)) → σ[j]? ≠ some (some (V.ref a))) :
    SR c F O (ρ.set i (some (.own d))) w (σ.set i (some (.ref a))) H where
  len := by rw [List.length_set, List.length_set]; exact S.len
  base := S.base
  new := S.new
  sub := S.sub
  drs := S.drs
  trk := S.trk
  draw := S.draw
  val := fun j e h => by
    rcases getElem?_set_some h with ⟨rfl, z⟩ | ⟨n, h⟩
    · cases z
    · obtain ⟨u, h1, h2⟩ := S.val j e h
      exact ⟨u, by rw [List.getElem?_set_ne n]; exact h1, h2⟩
  own := fun j e h => by
    rcases getElem?_set_some h with ⟨rfl, z⟩ | ⟨n, h⟩
    · cases z
      have hl : i < ρ.length := by
        have := (List.getElem?_eq_some_iff.mp h).1
        rw [List.length_set] at this
        exact this
      exact ⟨a, o, List.getElem?_set_self (by rw [← S.len]; exact hl), hO, h0, q, ob⟩
    · obtain ⟨a, o, h1, h2⟩ := S.own j e h
      exact ⟨a, o, by rw [List.getElem?_set_ne n]; exact h1, h2⟩
  uni := fun j j' e e' b h h' q q' => by
    rcases getElem?_set_some h with ⟨rfl, z⟩ | ⟨n, h⟩
    · rcases getElem?_set_some h' with ⟨rfl, z'⟩ | ⟨n', h'⟩
      · rfl
      · rw [List.getElem?_set_ne n'] at q'
        rcases getElem?_set_some q with ⟨_, y⟩ | ⟨y, _⟩
        · cases y
          exact absurd q' (nu j' e' h')
        · exact absurd rfl y
    · rcases getElem?_set_some h' with ⟨rfl, z'⟩ | ⟨n', h'⟩
      · rw [List.getElem?_set_ne n] at q
        rcases getElem?_set_some q' with ⟨_, y⟩ | ⟨y, _⟩
        · cases y
          exact absurd q (nu j e h)
        · exact absurd rfl y
      · rw [List.getElem?_set_ne n] at q
        rw [List.getElem?_set_ne n'] at q'
        exact S.uni j j' e e' b h h' q q'
def setM (i : Nat) (s : Slot) : M Unit := fun ρ w => some ((), ρ.set i (some s), w)
def asgM (i : Nat) : RV → M Unit
  | .fr d => setM i (.own d)
  | r => bindM (escR r) fun d => setM i (.val d)
theorem asg_ok (S : SR c F O ρ w σ H) (x : Ex G (vis O H)) (R : RepR c F G O ρ w σ H r v) (e : asgM i r ρ w = some ((), ρ', w')) : w' = w ∧ ∃ O', SR c F O' ρ' w (σ.set i (some v)) H ∧ Ex G (vis O' H) := by
  cases r with
  | fr d =>
    cases e
    obtain ⟨a, o, rfl, n, S1, q, ob, x1⟩ := R
    refine ⟨rfl, a :: O, S1.setOwn i List.mem_cons_self (fun z => n (S.sub a z)) q ob (fun j e h z => ?_), x1⟩
    obtain ⟨b, u, h1, h2, _⟩ := S.own j e h
    rw [h1] at z
    cases z
    exact n h2
  | sh d =>
    cases e
    exact ⟨rfl, O, S.setVal i R, x⟩
  | ow j =>
    obtain ⟨d, ρ1, w1, e1, e2⟩ := bindM_some e
    obtain ⟨rfl, O1, S1, k1, r1⟩ := escR_ok S R.hold e1
    cases e2
    exact ⟨rfl, O1, S1.setVal i r1, x.trans k1⟩
end

section
variable {X : Cx} {e : Expr} {pos pos' : Pos} {fe : M RV} {st : Stmt} {rest : List Stmt} {f g : M Fl} {x : Str} {i : Nat}
def nxM : M Unit → M Fl := fun m => bindM m fun _ => pureM .nx
theorem fs_set (hN : X.N.Nodup) (hi : X.N[i]? = some x) (hx : Loc X.env.scope x) (he : FE X e fe) (hs : swapsWith e (some (.Name x pos')) pos.line X.env = pure false := by rfl) (hf : X.fn x = true ∨ X.env.scope.names.lookup x = some .local := by first | exact .inl rfl | exact .inr rfl | assumption) :
    FS X (.Assign [.Name x pos'] e pos) (bindM fe fun r => nxM (asgM i r)) := fun F => PS.wk (ps_set hN hi hx (he F) hs hf) fun E σ H q => by
  obtain ⟨O, ρ, w, fl, ρ', w', S, e, k⟩ := q
  refine tE_then S e fun v O1 ρ1 w1 H1 r1 S1 e1 R1 h1 => ?_
  obtain ⟨_, ρ2, w2, h2, h3⟩ := bindM_some h1
  obtain ⟨rfl, O2, S2, x2⟩ := asg_ok S1 e1 R1 h2
  cases h3
  exact k _ O2 H1 S2 x2
theorem fs_ret (he : FE X e fe) : FS X (.Return (some e) pos) (bindM fe fun r => pureM (.ret r)) := fun F => PS.wk (ps_ret (he F)) fun E σ H q => by
  obtain ⟨O, ρ, w, fl, ρ', w', S, e, k⟩ := q
  refine tE_then S e fun v O1 ρ1 w1 H1 r1 S1 e1 R1 h1 => ?_
  cases h1
  exact k v σ O1 H1 S1 R1
theorem fs_expr (he : FE X e fe) (hs : swapsWith e none pos.line X.env = pure false := by rfl) : FS X (.Expr e pos) (bindM fe fun _ => pureM .nx) := fun F => PS.wk (ps_expr (he F) hs) fun E σ H q => by
  obtain ⟨O, ρ, w, fl, ρ', w', S, e, k⟩ := q
  refine tE_then S e fun v O1 ρ1 w1 H1 r1 S1 e1 R1 h1 => ?_
  cases h1
  exact k σ O1 H1 S1 e1
theorem fs_pass : FS X (.Pass pos) (pureM .nx) := fun F => PS.wk ps_pass fun E σ H q => by
  obtain ⟨O, ρ, w, fl, ρ', w', S, e, k⟩ := q
  cases e
  exact k σ O H S (Ex.refl _)
theorem fs_cont : FS X (.Continue pos) (pureM .ct) := fun F => PS.wk ps_continue fun E σ H q => by
  obtain ⟨O, ρ, w, fl, ρ', w', S, e, k⟩ := q
  cases e
  exact k σ O H S (Ex.refl _)
theorem fs_break : FS X (.Break pos) (pureM .bk) := fun F => PS.wk ps_break fun E σ H q => by
  obtain ⟨O, ρ, w, fl, ρ', w', S, e, k⟩ := q
  cases e
  exact k σ O H S (Ex.refl _)
/-- what never runs -/
theorem fs_never : FS X st failM := fun F => PS.wk ps_never fun E σ H q => by
  obtain ⟨O, ρ, w, fl, ρ', w', S, e, k⟩ := q
  cases e
def seqM (f g : M Fl) : M Fl := bindM f fun fl => match fl with
  | .nx => g
  | fl => pureM fl
theorem fss_nil : FSs X [] (pureM .nx) := fun F => PSs.wk pss_nil fun E σ H q => by
  obtain ⟨O, ρ, w, fl, ρ', w', S, e, k⟩ := q
  cases e
  exact k σ O H S (Ex.refl _)
theorem fss_one (h : FS X st f) : FSs X [st] f := fun F => pss_one (h F)
theorem fss_cons (h : FS X st f) (h2 : FSs X rest g) : FSs X (st :: rest) (seqM f g) := fun F => PSs.wk (pss_cons (h F) (h2 F)) fun E σ H q => by
  obtain ⟨O, ρ, w, fl, ρ', w', S, e, k⟩ := q
  obtain ⟨f1, ρ1, w1, e1, e2⟩ := bindM_some e
  refine ⟨O, ρ, w, f1, ρ1, w1, S, e1, ?_⟩
  cases f1 with
  | nx => exact fun σ1 O1 H1 S1 x1 => ⟨O1, ρ1, w1, fl, ρ', w', S1, e2, k.more x1⟩
  | ret r =>
    cases e2
    exact k
  | bk =>
    cases e2
    exact k
  | ct =>
    cases e2
    exact k
theorem fs_if {t : Expr} {a b : List Stmt} {ft : M Bool} (ht : FT X t ft) (ha : FSs X a f) (hb : FSs X b g) : FS X (.If t a b pos) (ifM ft f g) := fun F => PS.wk (ps_if (ht F) (ha F) (hb F)) fun E σ H q => by
  obtain ⟨O, ρ, w, fl, ρ', w', S, e, k⟩ := q
  refine tT_then S e fun b O1 ρ1 w1 H1 S1 e1 h1 => ?_
  cases b with
  | true => exact ⟨O1, ρ1, w1, fl, ρ', w', S1, h1, k.more e1⟩
  | false => exact ⟨O1, ρ1, w1, fl, ρ', w', S1, h1, k.more e1⟩
end

/-! ### targets -/
/-- a target: the slots js may change -/
def tG (c : Ct) (F : Fm) (js : List Nat) (g : D → M Unit) : TG := fun v σ H Q => ∃ O ρ w d ρ' w', SR c F O ρ w σ H ∧ Rep c F.dr.da (vis O H) v d ∧ g d ρ w = some ((), ρ', w') ∧
  ∀ σ' O', SR c F O' ρ' w' σ' H → Ex (vis O H) (vis O' H) → σ'.length = σ.length → (∀ j, j ∉ js → σ'[j]? = σ[j]?) → Q σ' H
def tGs (c : Ct) (F : Fm) (js : List Nat) (g : List D → M Unit) : TGs := fun vs σ H Q => ∃ O ρ w ds ρ' w', SR c F O ρ w σ H ∧ RepAll c F.dr.da (vis O H) vs ds ∧ g ds ρ w = some ((), ρ', w') ∧
  ∀ σ' O', SR c F O' ρ' w' σ' H → Ex (vis O H) (vis O' H) → σ'.length = σ.length → (∀ j, j ∉ js → σ'[j]? = σ[j]?) → Q σ' H
def FG (X : Cx) (tg : Expr) (js : List Nat) (g : D → M Unit) : Prop := ∀ F, PG X tg (tG (ct X) F js g)
def FGs (X : Cx) (ts : List Expr) (js : List Nat) (g : List D → M Unit) : Prop := ∀ F, PGs X ts (tGs (ct X) F js g)
theorem PG.wk {X : Cx} {e : Expr} {t t' : TG} (h : PG X e t) (k : ∀ v σ H Q, t' v σ H Q → t v σ H Q) : PG X e t' := ⟨fun pins s σ H v u Q I r q => h.run pins s σ H v u Q I r (k v σ H Q q)⟩
theorem PGs.wk {X : Cx} {e : List Expr} {t t' : TGs} (h : PGs X e t) (k : ∀ v σ H Q, t' v σ H Q → t v σ H Q) : PGs X e t' := ⟨fun pins s σ H v u Q I r q => h.run pins s σ H v u Q I r (k v σ H Q q)⟩
def gNameM (i : Nat) : D → M Unit := fun d => setM i (.val d)
def gNilM : List D → M Unit
  | [] => pureM ()
  | _ => failM
def gConsM (g : D → M Unit) (h : List D → M Unit) : List D → M Unit
  | d :: ds => bindM (g d) fun _ => h ds
  | _ => failM
def gTupM (g : List D → M Unit) : D → M Unit
  | .tup ds => g ds
  | _ => failM
section
variable {X : Cx} {e : Expr} {es : List Expr} {pos : Pos} {fe : M RV} {x : Str} {i : Nat} {js js' : List Nat}
theorem fg_name (hN : X.N.Nodup) (hi : X.N[i]? = some x) (hx : Loc X.env.scope x) (hf : X.fn x = true ∨ X.env.scope.names.lookup x = some .local := by first | exact .inl rfl | exact .inr rfl | assumption) : FG X (.Name x pos) [i] (gNameM i) := fun F => PG.wk (pg_name hN hi hx hf) fun v σ H Q q => by
  obtain ⟨O, ρ, w, d, ρ', w', S, r, e, k⟩ := q
  cases e
  exact k _ O (S.setVal i r) (Ex.refl _) (by rw [List.length_set]) fun j hj => List.getElem?_set_ne fun z => hj (by rw [z]; exact List.mem_singleton.mpr rfl)
theorem fgs_nil : FGs X [] [] gNilM := fun F => PGs.wk pgs_nil fun vs σ H Q q => by
  obtain ⟨O, ρ, w, ds, ρ', w', S, r, e, k⟩ := q
  cases r with
  | nil =>
    cases e
    exact ⟨rfl, k σ O S (Ex.refl _) rfl fun _ _ => rfl⟩
  | cons _ _ => cases e
theorem fgs_cons {g : D → M Unit} {h : List D → M Unit} (h1 : FG X e js g) (h2 : FGs X es js' h) (hs : (assignEach (e :: es) X.env).map (·.2) = assign e X.env :: (assignEach es X.env).map (·.2) := by rfl) : FGs X (e :: es) (js ++ js') (gConsM g h) := fun F => PGs.wk (pgs_cons (h1 F) (h2 F) hs) fun vs σ H Q q => by
  obtain ⟨O, ρ, w, ds, ρ', w', S, r, e, k⟩ := q
  cases r with
  | nil => cases e
  | cons r rr =>
    obtain ⟨_, ρ1, w1, e1, e2⟩ := bindM_some e
    refine ⟨_, _, rfl, O, ρ, w, _, ρ1, w1, S, r, e1, fun σ1 O1 S1 x1 l1 k1 => ?_⟩
    refine ⟨O1, ρ1, w1, _, ρ', w', S1, rr.mono x1, e2, fun σ2 O2 S2 x2 l2 k2 => k σ2 O2 S2 (x1.trans x2) (l2.trans l1) fun j hj => ?_⟩
    rw [k2 j fun z => hj (List.mem_append_right _ z), k1 j fun z => hj (List.mem_append_left _ z)]
theorem fg_tup {k : Nat} {g : List D → M Unit} (hc : X.calm = true) (h : FGs X es js g) (hst : (assignEach es X.env).findIdx? (·.1) = none := by rfl) (n : Nat) (hn : (assignEach es X.env).length = n := by rfl) (hg : ∀ ds ρ w z, g ds ρ w = some z → ds.length = n) : FG X (.Tuple es k pos) js (gTupM g) := fun F => PG.wk (pg_tup hc (h F) hn hst) fun v σ H Q q => by
  obtain ⟨O, ρ, w, d, ρ', w', S, r, e, k⟩ := q
  cases r with
  | @tup a xs ds s r => exact ⟨a, xs, rfl, .inl (.inl (vis_ex _ _ s)), by rw [r.length]; exact hg _ _ _ _ e, O, ρ, w, ds, ρ', w', S, r, e, k⟩
  | _ => cases e
theorem gNil_len : ∀ ds ρ w z, gNilM ds ρ w = some z → ds.length = 0
  | [], _, _, _, _ => rfl
  | _ :: _, _, _, _, h => by cases h
theorem gCons_len {g : D → M Unit} {h : List D → M Unit} {n : Nat} (k : ∀ ds ρ w z, h ds ρ w = some z → ds.length = n) : ∀ ds ρ w z, gConsM g h ds ρ w = some z → ds.length = n + 1
  | [], _, _, _, q => by cases q
  | _ :: ds, _, _, _, q => by
    obtain ⟨_, ρ1, w1, e1, e2⟩ := bindM_some q
    rw [List.length_cons, k ds _ _ _ e2]
/-- target = e -/
theorem fs_asg {tg : Expr} {g : D → M Unit} (he : FE X e fe) (hg : FG X tg js g) (hs : swapsWithSole [tg] e pos.line X.env = pure false := by rfl) (hw : swappedStores [tg] e X.env = pure none := by rfl) (h1 : (assignEach [tg] X.env).map (·.2) = [assign tg X.env] := by rfl) :
    FS X (.Assign [tg] e pos) (bindM fe fun r => bindM (escR r) fun d => nxM (g d)) := fun F => PS.wk (ps_asg (he F) (hg F) hs hw h1) fun E σ H q => by
  obtain ⟨O, ρ, w, fl, ρ', w', S, e, k⟩ := q
  refine tE_then S e fun v O1 ρ1 w1 H1 r1 S1 e1 R1 h1 => ?_
  obtain ⟨d, ρ2, w2, h2, h3⟩ := bindM_some h1
  obtain ⟨rfl, O2, S2, k2, r2⟩ := escR_ok S1 R1.hold h2
  obtain ⟨_, ρ3, w3, h4, h5⟩ := bindM_some h3
  cases h5
  exact ⟨O2, _, _, d, ρ', w', S2, r2, h4, fun σ' O' S' x' _ _ => k σ' O' H1 S' ((e1.trans k2).trans x')⟩
end

/-! ### a, b = x, y: what is new stays new -/
/-- values that are pending: the new ones (at P) hidden, of no slot -/
inductive Got (c : Ct) (da : Option Addr) (O : List Addr) (H : Hp) : List Addr → List RV → List V → Prop
  | nil : Got c da O H [] [] []
  | sh {P : List Addr} {rs : List RV} {vs : List V} {v : V} {d : D} : Rep c da (vis O H) v d → Got c da O H P rs vs → Got c da O H P (.sh d :: rs) (v :: vs)
  | fr {P : List Addr} {rs : List RV} {vs : List V} {a : Addr} {o : HO} {d : D} : a ∈ O → a ∉ P → H a = some o → Obj c da (vis O H) o d → Got c da O H P rs vs → Got c da O H (a :: P) (.fr d :: rs) (.ref a :: vs)
theorem Got.mono {c : Ct} {da : Option Addr} {O O' : List Addr} {H : Hp} (s : ∀ a ∈ O, a ∈ O') (e : Ex (vis O H) (vis O' H)) : ∀ {P : List Addr} {rs : List RV} {vs : List V}, Got c da O H P rs vs → Got c da O' H P rs vs
  | _, _, _, .nil => .nil
  | _, _, _, .sh h r => .sh (h.mono e) (Got.mono s e r)
  | _, _, _, .fr h1 h2 h3 h4 r => .fr (s _ h1) h2 h3 (h4.mono e) (Got.mono s e r)
/-- pending values of the frame F -/
def Pend (c : Ct) (F : Fm) (O : List Addr) (ρ : Env) (σ : L2.St) (H : Hp) (rs : List RV) (vs : List V) : Prop := ∃ P, Got c F.dr.da O H P rs vs ∧ ∀ a ∈ P, a ∉ F.O0 ∧ ∀ (j : Nat) e, ρ[j]? = some (some (Slot.own e)) → σ[j]? ≠ some (some (V.ref a))
/-- the frame with one more thing that must stand -/
def Fm.and (F : Fm) (a : Addr) (o : HO) : Fm := ⟨F.dr, a :: F.O0, fun b => if b = a then some o else F.H0 b⟩
section
variable {c : Ct} {F : Fm} {O : List Addr} {ρ : Env} {w : W} {σ : L2.St} {H : Hp} {a : Addr} {o : HO}
theorem SR.in (S : SR c F (a :: O) ρ w σ H) (h0 : a ∉ F.O0) (nu : ∀ (j : Nat) e, ρ[j]? = some (some (Slot.own e)) → σ[j]? ≠ some (some (V.ref a))) (q : H a = some o) : SR c (F.and a o) (a :: O) ρ w σ H where
  len := S.len
  base := fun b u h n => by
    by_cases z : b = a
    · subst z
      have h : (if b = b then some o else F.H0 b) = some u := h
      rw [if_pos rfl] at h
      cases h
      exact q
    · have h : (if b = a then some o else F.H0 b) = some u := h
      rw [if_neg z] at h
      exact S.base b u h n
  new := fun b h n => by
    have z : b ≠ a := fun z => n (by rw [z]; exact List.mem_cons_self)
    show (if b = a then some o else F.H0 b) = none
    rw [if_neg z]
    exact S.new b h fun y => n (List.mem_cons_of_mem _ y)
  sub := fun b h => by
    rcases List.mem_cons.mp h with z | z
    · rw [z]
      exact List.mem_cons_self
    · exact S.sub b z
  drs := fun b h => List.mem_cons_of_mem _ (S.drs b h)
  trk := S.trk
  draw := S.draw
  val := S.val
  own := fun i d h => by
    obtain ⟨b, u, h1, h2, h3, h4, h5⟩ := S.own i d h
    refine ⟨b, u, h1, h2, fun z => ?_, h4, h5⟩
    rcases List.mem_cons.mp z with z | z
    · rw [z] at h1
      exact nu i d h h1
    · exact h3 z
  uni := S.uni
theorem SR.out (S : SR c (F.and a o) O ρ w σ H) (h0 : a ∉ F.O0) (hn : F.H0 a = none) (hd : ∀ b ∈ F.dr.as, b ∈ F.O0) : SR c F O ρ w σ H ∧ H a = some o ∧ a ∈ O ∧ ∀ (j : Nat) e, ρ[j]? = some (some (Slot.own e)) → σ[j]? ≠ some (some (V.ref a)) := by
  have ha : a ∉ F.dr.as := fun z => h0 (hd a z)
  refine ⟨⟨S.len, fun b u h n => S.base b u ?_ n, fun b h n => ?_, fun b h => S.sub b (List.mem_cons_of_mem _ h), hd, S.trk, S.draw, S.val, fun i d h => ?_, S.uni⟩, S.base a o (show (if a = a then some o else F.H0 a) = some o from if_pos rfl) ha, S.sub a List.mem_cons_self, fun j e h z => ?_⟩
  · show (if b = a then some o else F.H0 b) = some u
    rw [if_neg fun z => by rw [z, hn] at h; cases h]
    exact h
  · by_cases z : b = a
    · rw [z]
      exact hn
    · have q : (if b = a then some o else F.H0 b) = none := S.new b h fun y => by
        rcases List.mem_cons.mp y with y | y
        · exact z y
        · exact n y
      rw [if_neg z] at q
      exact q
  · obtain ⟨b, u, h1, h2, h3, h4, h5⟩ := S.own i d h
    exact ⟨b, u, h1, h2, fun z => h3 (List.mem_cons_of_mem _ z), h4, h5⟩
  · obtain ⟨b, u, h1, h2, h3, _⟩ := S.own j e h
    rw [h1] at z
    cases z
    exact h3 List.mem_cons_self
end
/-- what came out, no slot's own -/
def offR : RV → M RV
  | .ow i => bindM (escR (.ow i)) fun d => pureM (.sh d)
  | r => pureM r
def pend1 (f : M RV) (g : M (List RV)) : M (List RV) := bindM f fun r => bindM (offR r) fun r' => bindM g fun rs => pureM (r' :: rs)
def tP (c : Ct) (F : Fm) (f : M (List RV)) : TA := fun σ H Q => ∃ O ρ w rs ρ' w', SR c F O ρ w σ H ∧ f ρ w = some (rs, ρ', w') ∧
  ∀ vs O' H', SR c F O' ρ' w' σ H' → Ex (vis O H) (vis O' H') → Pend c F O' ρ' σ H' rs vs → Q vs H'
def FP (X : Cx) (es : List Expr) (f : M (List RV)) : Prop := ∀ F, PA X es (tP (ct X) F f)
section
variable {X : Cx} {e : Expr} {es : List Expr} {pos : Pos} {fe : M RV} {g : M (List RV)}
theorem fp_nil : FP X [] (pureM []) := fun F => PA.wk pa_nil fun σ H Q q => by
  obtain ⟨O, ρ, w, r, ρ', w', S, e, k⟩ := q
  cases e
  exact k [] O H S (Ex.refl _) ⟨[], .nil, fun _ z => nomatch z⟩
theorem fp_cons (ha : FE X e fe) (hr : FP X es g) (hs : starEach (e :: es) X.env = (false, eval e X.env) :: starEach es X.env := by rfl) : FP X (e :: es) (pend1 fe g) := fun F => ⟨fun p pins s σ H Q I q => by
  obtain ⟨O, ρ, w, rs, ρ', w', S, e, k⟩ := q
  rw [hs]
  show wpAny _ _ (spliced ((false, eval _ X.env) :: backTo p (starEach es X.env))) _ _ s
  refine Calls.spliced_cons (thn ((ha F).run pins s σ H _ I (tE_then (Q := fun v H1 => ∃ O1 ρ1 w1 r1, SR (ct X) F O1 ρ1 w1 σ H1 ∧ Ex (vis O H) (vis O1 H1) ∧ RepR (ct X) F (vis O H) O1 ρ1 w1 σ H1 r1 v ∧ (bindM (offR r1) fun r' => bindM g fun rs => pureM (r' :: rs)) ρ1 w1 = some (rs, ρ', w')) S e fun v O1 ρ1 w1 H1 r1 S1 e1 R1 h1 => ⟨O1, ρ1, w1, r1, S1, e1, R1, h1⟩)) fun u s1 ⟨x, H1, I1, rx, O1, ρ1, w1, r1, S1, e1, R1, h1⟩ => ?_)
  obtain ⟨r2, ρ2, w2, h2, h3⟩ := bindM_some h1
  obtain ⟨rs3, ρ3, w3, h4, h5⟩ := bindM_some h3
  cases h5
  have old : ∀ {d : D} {O2 : List Addr}, SR (ct X) F O2 ρ2 w2 σ H1 → Ex (vis O H) (vis O2 H1) → Rep (ct X) F.dr.da (vis O2 H1) x d → r2 = .sh d → wpAny (model X.prog X.w) X.A (spliced (backTo p (starEach es X.env))) (fun us s2 => AP X pins σ Q (u :: us) s2) X.xe s1 := fun {d O2} S2 x2 rp er => by
    subst er
    refine thn ((hr F).run p pins s1 σ H1 _ I1 ⟨O2, ρ2, w2, rs3, ρ', w', S2, h4, fun vs O3 H3 S3 x3 P3 => ?_⟩) fun us s2 ⟨vs, H3, I3, r3, q3⟩ => ⟨x :: vs, H3, I3, .cons rx r3, q3⟩
    obtain ⟨P, gt, pp⟩ := P3
    exact k (x :: vs) O3 H3 S3 (x2.trans x3) ⟨P, .sh (rp.mono x3) gt, pp⟩
  cases r1 with
  | sh d =>
    cases h2
    exact old S1 e1 R1 rfl
  | ow i =>
    obtain ⟨d, ρ4, w4, h6, h7⟩ := bindM_some h2
    obtain ⟨rfl, O2, S2, k2, r2'⟩ := escR_ok S1 R1.hold h6
    cases h7
    exact old S2 (e1.trans k2) r2' rfl
  | fr d =>
    cases h2
    obtain ⟨a, o, rfl, n, S2, q, ob, x2⟩ := R1
    have nF : a ∉ F.O0 := fun z => n (S1.sub a z)
    have nu : ∀ (j : Nat) e, ρ1[j]? = some (some (Slot.own e)) → σ[j]? ≠ some (some (V.ref a)) := fun j e h z => by
      obtain ⟨b, u, h1, h2, _⟩ := S1.own j e h
      rw [h1] at z
      cases z
      exact n h2
    have S3 := S2.in nF nu q
    refine thn ((hr (F.and a o)).run p pins s1 σ H1 _ I1 ⟨a :: O1, _, _, rs3, ρ', w', S3, h4, fun vs O3 H3 S4 x3 P3 => ?_⟩) fun us s2 ⟨vs, H3, I3, r3, q3⟩ => ⟨_ :: vs, H3, I3, .cons rx r3, q3⟩
    obtain ⟨S5, q5, m5, u5⟩ := S4.out nF (S2.new a List.mem_cons_self nF) S1.drs
    obtain ⟨P, gt, pp⟩ := P3
    refine k (.ref a :: vs) O3 H3 S5 (x2.trans x3) ⟨a :: P, .fr m5 (fun z => (pp a z).1 List.mem_cons_self) q5 (ob.mono x3) gt, fun b hb => ?_⟩
    rcases List.mem_cons.mp hb with z | z
    · rw [z]
      exact ⟨nF, u5⟩
    · exact ⟨fun y => (pp b z).1 (List.mem_cons_of_mem _ y), (pp b z).2⟩⟩
def slotOf : RV → Option Slot
  | .sh d => some (.val d)
  | .fr d => some (.own d)
  | .ow _ => none
def parM : List Nat → List RV → M Unit
  | [], [] => pureM ()
  | i :: is, .sh d :: rs => bindM (setM i (.val d)) fun _ => parM is rs
  | i :: is, .fr d :: rs => bindM (setM i (.own d)) fun _ => parM is rs
  | _, _ => failM
def setAll (σ : L2.St) : List Nat → List V → L2.St
  | i :: is, v :: vs => setAll (σ.set i (some v)) is vs
  | _, _ => σ
theorem par_ok {c : Ct} {F : Fm} : ∀ {is : List Nat} {rs : List RV} {vs : List V} {O : List Addr} {ρ ρ' : Env} {w w' : W} {σ : L2.St} {H : Hp}, SR c F O ρ w σ H → Pend c F O ρ σ H rs vs → parM is rs ρ w = some ((), ρ', w') → SR c F O ρ' w' (setAll σ is vs) H
  | [], _, _, O, ρ, ρ', w, w', σ, H, S, ⟨P, gt, pp⟩, e => by
    cases gt with
    | nil =>
      cases e
      exact S
    | _ => cases e
  | i :: is, _, _, O, ρ, ρ', w, w', σ, H, S, ⟨P, gt, pp⟩, e => by
    cases gt with
    | nil => cases e
    | @sh P rs vs v d r gt =>
      obtain ⟨_, ρ1, w1, e1, e2⟩ := bindM_some e
      cases e1
      show SR c F O ρ' w' (setAll (σ.set i (some v)) is vs) H
      refine par_ok (S.setVal i r) ⟨P, gt, fun a h => ⟨(pp a h).1, fun j e q z => ?_⟩⟩ e2
      rcases getElem?_set_some q with ⟨rfl, y⟩ | ⟨n, q⟩
      · cases y
      · rw [List.getElem?_set_ne n] at z
        exact (pp a h).2 j e q z
    | @fr P rs vs a o d m n q ob gt =>
      obtain ⟨_, ρ1, w1, e1, e2⟩ := bindM_some e
      cases e1
      obtain ⟨p1, p2⟩ := pp a List.mem_cons_self
      show SR c F O ρ' w' (setAll (σ.set i (some (.ref a))) is vs) H
      refine par_ok (S.setOwn i m p1 q ob p2) ⟨P, gt, fun b h => ⟨(pp b (List.mem_cons_of_mem _ h)).1, fun j e q z => ?_⟩⟩ e2
      rcases getElem?_set_some q with ⟨rfl, y⟩ | ⟨n', q⟩
      · rcases getElem?_set_some z with ⟨_, y⟩ | ⟨y, _⟩
        · cases y
          exact n h
        · exact y rfl
      · rw [List.getElem?_set_ne n'] at z
        exact (pp b (List.mem_cons_of_mem _ h)).2 j e q z
theorem Got.len2 {c : Ct} {da : Option Addr} {O : List Addr} {H : Hp} {P : List Addr} {rs : List RV} {vs : List V} (g : Got c da O H P rs vs) : rs.length = vs.length := by
  induction g with
  | nil => rfl
  | sh _ _ ih => simp [ih]
  | fr _ _ _ _ _ ih => simp [ih]
theorem parM_len : ∀ {is : List Nat} {rs : List RV} {ρ : Env} {w : W} {z : Unit × Env × W}, parM is rs ρ w = some z → rs.length = is.length
  | [], [], _, _, _, _ => rfl
  | [], _ :: _, _, _, _, h => by cases h
  | _ :: _, [], _, _, _, h => by cases h
  | _ :: is, .sh _ :: rs, _, _, _, h => by
    obtain ⟨_, ρ1, w1, _, e2⟩ := bindM_some h
    rw [List.length_cons, parM_len e2, List.length_cons]
  | _ :: is, .fr _ :: rs, _, _, _, h => by
    obtain ⟨_, ρ1, w1, _, e2⟩ := bindM_some h
    rw [List.length_cons, parM_len e2, List.length_cons]
  | _ :: is, .ow _ :: rs, _, _, _, h => by cases h
variable {i j l : Nat} {x y z : Str} {a b c' : Expr} {px py pz pt pt2 : Pos} {kt k2 : Nat} {fp : M (List RV)}
/-- names are set together; the display is not made -/
abbrev Swaps (X : Cx) (tg e : Expr) (ns : List Str) : Prop := swappedStores [tg] e X.env = pure (some ns)
abbrev NoSole (X : Cx) (tg e : Expr) (pos : Pos) : Prop := swapsWithSole [tg] e pos.line X.env = pure false
theorem fs_par2 (hc : X.calm = true) (hN : X.N.Nodup) (hi : X.N[i]? = some x) (hj : X.N[j]? = some y) (hij : i ≠ j)
    (hx : X.env.scope.names.lookup x = some .local) (hy : X.env.scope.names.lookup y = some .local) (ha : FP X [a, b] fp)
    (hw : Swaps X (.Tuple [.Name x px, .Name y py] kt pt) (.Tuple [a, b] k2 pt2) [x, y])
    (hs : NoSole X (.Tuple [.Name x px, .Name y py] kt pt) (.Tuple [a, b] k2 pt2) pos := by rfl) :
    FS X (.Assign [.Tuple [.Name x px, .Name y py] kt pt] (.Tuple [a, b] k2 pt2) pos) (bindM fp fun rs => nxM (parM [i, j] rs)) := fun F => PS.wk (ps_par hc hN hi hj hij hx hy (ha F) hw hs) fun E σ H q => by
  obtain ⟨O, ρ, w, fl, ρ', w', S, e, k⟩ := q
  obtain ⟨rs, ρ1, w1, e1, e2⟩ := bindM_some e
  obtain ⟨_, ρ2, w2, e3, e4⟩ := bindM_some e2
  cases e4
  refine ⟨O, ρ, w, rs, ρ1, w1, S, e1, fun vs O1 H1 S1 x1 P1 => ?_⟩
  have S2 := par_ok S1 P1 e3
  obtain ⟨P, gt, _⟩ := P1
  have lv : vs.length = 2 := by rw [← gt.len2, parM_len e3] <;> rfl
  match vs, lv, S2 with
  | [v1, v2], _, S2 => exact ⟨v1, v2, rfl, k _ O1 H1 S2 x1⟩
theorem fs_par3 (hc : X.calm = true) (hN : X.N.Nodup) (hi : X.N[i]? = some x) (hj : X.N[j]? = some y) (hl : X.N[l]? = some z) (hij : i ≠ j) (hil : i ≠ l) (hjl : j ≠ l)
    (hx : X.env.scope.names.lookup x = some .local) (hy : X.env.scope.names.lookup y = some .local) (hz : X.env.scope.names.lookup z = some .local) (ha : FP X [a, b, c'] fp)
    (hw : Swaps X (.Tuple [.Name x px, .Name y py, .Name z pz] kt pt) (.Tuple [a, b, c'] k2 pt2) [x, y, z])
    (hs : NoSole X (.Tuple [.Name x px, .Name y py, .Name z pz] kt pt) (.Tuple [a, b, c'] k2 pt2) pos := by rfl) :
    FS X (.Assign [.Tuple [.Name x px, .Name y py, .Name z pz] kt pt] (.Tuple [a, b, c'] k2 pt2) pos) (bindM fp fun rs => nxM (parM [i, j, l] rs)) := fun F => PS.wk (ps_par3 hc hN hi hj hl hij hil hjl hx hy hz (ha F) hw hs) fun E σ H q => by
  obtain ⟨O, ρ, w, fl, ρ', w', S, e, k⟩ := q
  obtain ⟨rs, ρ1, w1, e1, e2⟩ := bindM_some e
  obtain ⟨_, ρ2, w2, e3, e4⟩ := bindM_some e2
  cases e4
  refine ⟨O, ρ, w, rs, ρ1, w1, S, e1, fun vs O1 H1 S1 x1 P1 => ?_⟩
  have S2 := par_ok S1 P1 e3
  obtain ⟨P, gt, _⟩ := P1
  have lv : vs.length = 3 := by rw [← gt.len2, parM_len e3] <;> rfl
  match vs, lv, S2 with
  | [v1, v2, v3], _, S2 => exact ⟨v1, v2, v3, rfl, k _ O1 H1 S2 x1⟩
end
end FD

end sec_FD4
section sec_FD5
set_option maxRecDepth 100000
set_option maxHeartbeats 5000000
/-! FD5: what is walked; for, while, list comprehensions. -/
namespace FD
open PySem L2
variable [Tabl]

/-- J goes through ds, while what was to be seen (G) is to be seen -/
def Wk (c : Ct) (dr : Dr) (J : It) (G : Hp) (ds : List D) : Prop := ∀ (i : Nat) O H, Ex G (vis O H) → (∀ a ∈ O, ∃ o, H a = some o ∧ NT o) → (∀ t, dr.at_ = some t → H t.2.2 = some (.lst (dr.cl.map V.int))) → (∀ d, ds[i]? = some d → J.go i H ∧ ∀ x H', J.yld i H x H' → Ex H H' ∧ Rep c dr.da (vis O H') x d) ∧ (ds.length = i → J.stop i H)
theorem SR.cel {c : Ct} {F : Fm} {O : List Addr} {ρ : Env} {w : W} {σ : L2.St} {H : Hp} (S : SR c F O ρ w σ H) : ∀ t, F.dr.at_ = some t → H t.2.2 = some (.lst (F.dr.cl.map V.int)) := fun t e => by
  obtain ⟨_, _, h, _, q⟩ := S.draw.1 t e
  rw [← q]
  exact h
def tI (c : Ct) (F : Fm) (f : M (List D)) : TI := fun σ H R => ∃ O ρ w ds ρ' w', SR c F O ρ w σ H ∧ f ρ w = some (ds, ρ', w') ∧
  ∀ J O' H', SR c F O' ρ' w' σ H' → Ex (vis O H) (vis O' H') → Wk c F.dr J (vis O' H') ds → R J H'
def FI (X : Cx) (tg iter : Expr) (f : M (List D)) : Prop := ∀ F, PI X tg iter (tI (ct X) F f)
def iterD : D → Option (List D)
  | .lst ds => some ds
  | .tup ds => some ds
  | .ktup ds => some ds
  | .str x => some (x.cps.toList.map fun c => .str ⟨#[c]⟩)
  | .scr ns => some (ns.map D.int)
  | _ => none
def iterM (r : RV) : M (List D) := bindM (escR r) fun d => fun ρ w => match iterD d with
  | some ds => some (ds, ρ, w)
  | none => none
section
variable {c : Ct} {dr : Dr} {G : Hp}
theorem wk_list {a : Addr} {xs : List V} {ds : List D} (s0 : G a = some (.lst xs)) (r : RepAll c dr.da G xs ds) : Wk c dr (Itl c.K a) G ds := fun i O H e _ _ => by
  have s' : SqL c.K H a xs := (e.trans vis_ex).sl (SqL.of s0)
  refine ⟨fun d h => ?_, fun h => ⟨xs, s', by rw [r.length]; exact Nat.le_of_eq h⟩⟩
  obtain ⟨v, h1, h2⟩ := r.get h
  refine ⟨⟨xs, v, s', h1⟩, fun x H' y => ?_⟩
  obtain ⟨rfl, y⟩ := y
  have z := y xs s'
  rw [h1] at z
  cases z
  exact ⟨Ex.refl _, h2.mono e⟩
theorem wk_scr {a : Addr} {ns : List Int} (s : SqL c.K G a (ns.map V.int)) : Wk c dr (Itl c.K a) G (ns.map D.int) := fun i O H e _ _ => by
  have s' : SqL c.K H a (ns.map V.int) := (e.trans vis_ex).sl s
  refine ⟨fun d h => ?_, fun h => ⟨_, s', by simpa using Nat.le_of_eq h⟩⟩
  obtain ⟨v, h1, h2⟩ := (RepAll.ints (c := c) (da := dr.da) (G := G) ns).get h
  refine ⟨⟨_, v, s', h1⟩, fun x H' y => ?_⟩
  obtain ⟨rfl, y⟩ := y
  have z := y _ s'
  rw [h1] at z
  cases z
  exact ⟨Ex.refl _, h2.mono e⟩
theorem wk_tup {a : Addr} {xs : List V} {ds : List D} (s : SqT c.K G a xs) (r : RepAll c dr.da G xs ds) : Wk c dr (Itt c.K a) G ds := fun i O H e _ _ => by
  have s' : SqT c.K H a xs := (e.trans vis_ex).st s
  refine ⟨fun d h => ?_, fun h => ⟨xs, s', by rw [r.length]; exact Nat.le_of_eq h⟩⟩
  obtain ⟨v, h1, h2⟩ := r.get h
  refine ⟨⟨xs, v, s', h1⟩, fun x H' y => ?_⟩
  obtain ⟨rfl, y⟩ := y
  have z := y xs s'
  rw [h1] at z
  cases z
  exact ⟨Ex.refl _, h2.mono e⟩
theorem wk_str {x : Str} : Wk c dr (Its x) G (x.cps.toList.map fun c => D.str ⟨#[c]⟩) := fun i O H e _ _ => by
  refine ⟨fun d h => ?_, fun h => ?_⟩
  · rw [List.getElem?_map] at h
    cases q : x.cps.toList[i]? with
    | none =>
      rw [q] at h
      cases h
    | some k =>
      rw [q] at h
      cases h
      have hl := (List.getElem?_eq_some_iff.mp q).1
      refine ⟨by show i < x.cps.size; simpa using hl, fun v H' y => ?_⟩
      obtain ⟨rfl, k', hk, rfl⟩ := y
      have hk2 : x.cps.toList[i]? = some k' := by simpa using hk
      rw [q] at hk2
      cases hk2
      exact ⟨Ex.refl _, .str _⟩
  · show x.cps.size ≤ i
    simpa using Nat.le_of_eq h
theorem wk_rng {lo : Int} {n : Nat} : Wk c dr (Itr lo n) G ((List.range n).map fun (i : Nat) => D.int (lo + (i : Int))) := fun i O H e _ _ => by
  refine ⟨fun d h => ?_, fun h => ?_⟩
  · rw [List.getElem?_map] at h
    cases q : (List.range n)[i]? with
    | none =>
      rw [q] at h
      cases h
    | some k =>
      rw [q] at h
      cases h
      obtain ⟨hl, hk⟩ := List.getElem?_eq_some_iff.mp q
      rw [List.getElem_range] at hk
      subst hk
      refine ⟨by show i < n; simpa using hl, fun v H' y => ?_⟩
      obtain ⟨rfl, rfl⟩ := y
      exact ⟨Ex.refl _, .int _⟩
  · show n ≤ i
    simpa using Nat.le_of_eq h
end
section
variable {X : Cx} {tg l e : Expr} {pos p : Pos} {fe : M RV} {fa : M (List RV)}
theorem fi_val (he : FE X l fe) : FI X tg l (bindM fe fun r => iterM r) := fun F => ⟨fun pins s σ H R I q => by
  obtain ⟨O, ρ, w, ds, ρ', w', S, e, k⟩ := q
  obtain ⟨r, ρ1, w1, e1, e2⟩ := bindM_some e
  obtain ⟨d, ρ2, w2, e3, e4⟩ := bindM_some e2
  have go : ∀ (Q : VK), (∀ v O2 H2, SR (ct X) F O2 ρ2 w2 σ H2 → Ex (vis O H) (vis O2 H2) → Rep (ct X) F.dr.da (vis O2 H2) v d → Q v H2) → tE (ct X) F fe σ H Q := fun Q hq => ⟨O, ρ, w, r, ρ1, w1, S, e1, fun v O1 H1 S1 x1 R1 => by
    obtain ⟨rfl, O2, S2, k2, r2⟩ := escR_ok S1 R1.hold e3
    exact hq v O2 H1 S2 (x1.trans k2) r2⟩
  cases d with
  | lst es =>
    cases e4
    refine (pi_list (he F)).run pins s σ H R I (go _ fun v O2 H2 S2 x2 r2 => ?_)
    cases r2 with
    | lst s r => exact ⟨_, rfl, ⟨_, vis_ex.sl (SqL.of s)⟩, k _ O2 H2 S2 x2 (wk_list s r)⟩
  | tup es =>
    cases e4
    refine (pi_tup (he F)).run pins s σ H R I (go _ fun v O2 H2 S2 x2 r2 => ?_)
    cases r2 with
    | tup s r => exact ⟨_, rfl, ⟨_, .inl (.inl (vis_ex _ _ s))⟩, k _ O2 H2 S2 x2 (wk_tup (.inl (.inl s)) r)⟩
  | ktup es =>
    cases e4
    refine (pi_tup (he F)).run pins s σ H R I (go _ fun v O2 H2 S2 x2 r2 => ?_)
    cases r2 with
    | ktup s r => exact ⟨_, rfl, ⟨_, vis_ex.st s⟩, k _ O2 H2 S2 x2 (wk_tup s r)⟩
  | str x =>
    cases e4
    refine (pi_str (he F)).run pins s σ H R I (go _ fun v O2 H2 S2 x2 r2 => ?_)
    cases r2
    exact ⟨_, rfl, k _ O2 H2 S2 x2 wk_str⟩
  | scr ns =>
    cases e4
    refine (pi_list (he F)).run pins s σ H R I (go _ fun v O2 H2 S2 x2 r2 => ?_)
    cases r2 with
    | scr s => exact ⟨_, rfl, ⟨_, vis_ex.sl s⟩, k _ O2 H2 S2 x2 (wk_scr s)⟩
  | _ => cases e4⟩
/-- range(n) -/
def rangeM (rs : List RV) : M (List D) := fun ρ w => match peeks ρ rs with
  | some [.int n] => if -1000000 ≤ n ∧ n ≤ 1000000 then some ((List.range n.toNat).map fun (i : Nat) => D.int (i : Int), ρ, w) else none
  | some [.int a, .int b] => if (-1000000 ≤ a ∧ a ≤ 1000000) ∧ (-1000000 ≤ b ∧ b ≤ 1000000) then some ((List.range (b - a).toNat).map fun (i : Nat) => D.int (a + (i : Int)), ρ, w) else none
  | _ => none
theorem fi_range1 (hg : Gl X "range") (hm : X.mg "range" = none) (ha : FA X [e] fa) (hs : starEach [e] X.env = [(false, eval e X.env)] := by rfl) : FI X tg (.Call (.Name "range" p) [e] [] pos) (bindM fa fun rs => rangeM rs) := fun F => ⟨fun pins s σ H R I q => by
  obtain ⟨O, ρ, w, ds, ρ', w', S, e, k⟩ := q
  refine (pi_range1 hg hm (ha.run F) hs).run pins s σ H R I ?_
  refine tA_then S e fun vs O1 ρ1 w1 H1 rs S1 e1 R1 f1 h1 => ?_
  have hl := ha.len _ _ _ _ _ f1
  unfold rangeM at h1
  split at h1
  · rename_i n hp
    split at h1
    · rename_i hn
      cases h1
      have P := R1.peeks S1 hp
      cases P with
      | cons p1 p2 =>
        cases p2
        have z := p1.int
        subst z
        refine ⟨n, rfl, by omega, by omega, k _ O1 H1 S1 e1 ?_⟩
        have W := wk_rng (c := ct X) (dr := F.dr) (G := vis O1 H1) (lo := 0) (n := n.toNat)
        simpa using W
    · cases h1
  · rename_i a b hp
    have P := R1.peeks S1 hp
    cases P with
    | cons _ p2 =>
      cases p2 with
      | cons _ p3 =>
        cases p3
        have := R1.length
        rw [hl] at this
        simp at this
  · cases h1⟩
theorem fi_range2 {e2 : Expr} (hg : Gl X "range") (hm : X.mg "range" = none) (ha : FA X [e, e2] fa) (hs : starEach [e, e2] X.env = [(false, eval e X.env), (false, eval e2 X.env)] := by rfl) (hs2 : starEach [e2] X.env = [(false, eval e2 X.env)] := by rfl) : FI X tg (.Call (.Name "range" p) [e, e2] [] pos) (bindM fa fun rs => rangeM rs) := fun F => ⟨fun pins s σ H R I q => by
  obtain ⟨O, ρ, w, ds, ρ', w', S, e, k⟩ := q
  refine (pi_range2 hg hm (ha.run F) hs hs2).run pins s σ H R I ?_
  refine tA_then S e fun vs O1 ρ1 w1 H1 rs S1 e1 R1 f1 h1 => ?_
  have hl := ha.len _ _ _ _ _ f1
  unfold rangeM at h1
  split at h1
  · rename_i a hp
    have P := R1.peeks S1 hp
    cases P with
    | cons _ p2 =>
      cases p2
      have := R1.length
      rw [hl] at this
      simp at this
  · rename_i a b hp
    split at h1
    · rename_i hn
      cases h1
      have P := R1.peeks S1 hp
      cases P with
      | cons p1 p2 =>
        cases p2 with
        | cons p2 p3 =>
          cases p3
          have z := p1.int
          subst z
          have z := p2.int
          subst z
          exact ⟨a, b, rfl, ⟨by omega, by omega, by omega, by omega⟩, k _ O1 H1 S1 e1 wk_rng⟩
    · cases h1
  · cases h1⟩

/-! ### for -/
def forL (asg : D → M Unit) (body : M Fl) : List D → M Fl
  | [] => pureM .nx
  | d :: ds => bindM (asg d) fun _ => bindM body fun fl => match fl with
    | .nx => forL asg body ds
    | .ct => forL asg body ds
    | .bk => pureM .nx
    | .ret r => pureM (.ret r)
def forM (fi : M (List D)) (asg : D → M Unit) (body : M Fl) : M Fl := bindM fi fun ds => forL asg body ds
theorem fs_for {iter : Expr} {body : List Stmt} {fi : M (List D)} {js : List Nat} {g : D → M Unit} {fb : M Fl} (hp : PassesOwn (model X.prog X.w) X.A X.env X.xe) (hc : X.calm = true) (hi : FI X tg iter fi) (hg : FG X tg js g) (hb : FSs X body fb)
    (hs : ∀ x, foldedSetIterable iter X.env x = pure x := by intro _; rfl) : FS X (.For tg iter body [] pos) (forM fi g fb) := fun F => PS.wk (ps_for hp hc (hi F) (hg F) (hb F) hs) fun E σ H q => by
  obtain ⟨O, ρ, w, fl, ρ', w', S, e, k⟩ := q
  obtain ⟨ds, ρ1, w1, e1, e2⟩ := bindM_some e
  refine ⟨O, ρ, w, ds, ρ1, w1, S, e1, fun J O1 H1 S1 x1 W => ?_⟩
  refine ⟨fun i m σ' H' => m = ds.length - i ∧ i ≤ ds.length ∧ ∃ O' ρ' w' z, SR (ct X) F O' ρ' w' σ' H' ∧ Ex (vis O1 H1) (vis O' H') ∧ forL g fb (ds.drop i) ρ' w' = some z ∧ Done (ct X) F (vis O1 H1) z.1 z.2.1 z.2.2 E, ⟨ds.length, by simp, Nat.zero_le _, O1, ρ1, w1, (fl, ρ', w'), S1, Ex.refl _, by simpa using e2, k.more x1⟩, ?_⟩
  rintro i m σ' H' ⟨rfl, hi, O2, ρ2, w2, z, S2, x2, e3, k3⟩
  obtain ⟨hgo, hstop⟩ := W i O2 H' x2 S2.trk S2.cel
  by_cases hlt : i < ds.length
  · obtain ⟨go, yld⟩ := hgo ds[i] (by simp [hlt])
    rw [List.drop_eq_getElem_cons hlt] at e3
    obtain ⟨_, ρ3, w3, e4, e5⟩ := bindM_some e3
    obtain ⟨f4, ρ4, w4, e6, e7⟩ := bindM_some e5
    refine .inr ⟨go, fun σ5 H5 => ∃ O' ρ' w' z, SR (ct X) F O' ρ' w' σ5 H5 ∧ Ex (vis O1 H1) (vis O' H5) ∧ forL g fb (ds.drop (i + 1)) ρ' w' = some z ∧ Done (ct X) F (vis O1 H1) z.1 z.2.1 z.2.2 E, fun σ5 H5 n => ⟨ds.length - (i + 1), by omega, rfl, hlt, n⟩, fun x H3 y => ?_⟩
    obtain ⟨x3, r3⟩ := yld x H3 y
    have x3' := vis_mono (O := O2) x3
    refine ⟨O2, ρ2, w2, ds[i], ρ3, w3, S2.grow x3, r3, e4, fun σ6 O6 S6 x6 _ _ => ⟨O6, ρ3, w3, f4, ρ4, w4, S6, e6, ?_⟩⟩
    have x7 : Ex (vis O1 H1) (vis O6 H3) := (x2.trans x3').trans x6
    cases f4 with
    | nx => exact fun σ8 O8 H8 S8 x8 => ⟨O8, ρ4, w4, z, S8, x7.trans x8, e7, k3⟩
    | ct => exact fun σ8 O8 H8 S8 x8 => ⟨O8, ρ4, w4, z, S8, x7.trans x8, e7, k3⟩
    | bk =>
      cases e7
      exact fun σ8 O8 H8 S8 x8 => k3 σ8 O8 H8 S8 (x7.trans x8)
    | ret r =>
      cases e7
      exact fun v σ8 O8 H8 S8 R8 => k3 v σ8 O8 H8 S8 (R8.less x7)
  · have ei : i = ds.length := by omega
    subst ei
    rw [List.drop_length] at e3
    cases e3
    exact .inl ⟨hstop rfl, k3 σ' O2 H' S2 x2⟩

/-! ### while -/
def whileM (t : M Bool) (body : M Fl) : Nat → M Fl
  | 0 => failM
  | n + 1 => bindM t fun b => if b then bindM body fun fl => match fl with
      | .nx => whileM t body n
      | .ct => whileM t body n
      | .bk => pureM .nx
      | .ret r => pureM (.ret r)
    else pureM .nx
theorem fs_while {c : Expr} {body : List Stmt} {t : M Bool} {fb : M Fl} (n : Nat) (hp : PassesOwn (model X.prog X.w) X.A X.env X.xe) (hc : FT X c t) (hb : FSs X body fb) : FS X (.While c body [] pos) (whileM t fb n) := fun F => PS.wk (ps_while hp (hc F) (hb F)) fun E σ H q => by
  obtain ⟨O, ρ, w, fl, ρ', w', S, e, k⟩ := q
  refine ⟨fun m σ' H' => ∃ O' ρ' w' z, SR (ct X) F O' ρ' w' σ' H' ∧ Ex (vis O H) (vis O' H') ∧ whileM t fb m ρ' w' = some z ∧ Done (ct X) F (vis O H) z.1 z.2.1 z.2.2 E, ⟨n, O, ρ, w, (fl, ρ', w'), S, Ex.refl _, e, k⟩, ?_⟩
  rintro m σ' H' ⟨O2, ρ2, w2, z, S2, x2, e2, k2⟩
  cases m with
  | zero => cases e2
  | succ m =>
    refine tT_then S2 e2 fun b O3 ρ3 w3 H3 S3 x3 h3 => ?_
    cases b with
    | false =>
      cases h3
      show E.nx σ' H3
      exact k2 σ' O3 H3 S3 (x2.trans x3)
    | true =>
      obtain ⟨f4, ρ4, w4, e6, e7⟩ := bindM_some (f := fb) (show bindM fb _ ρ3 w3 = some z from h3)
      have x7 := x2.trans x3
      refine ⟨fun σ5 H5 => ∃ O' ρ' w' z, SR (ct X) F O' ρ' w' σ5 H5 ∧ Ex (vis O H) (vis O' H5) ∧ whileM t fb m ρ' w' = some z ∧ Done (ct X) F (vis O H) z.1 z.2.1 z.2.2 E, fun σ5 H5 n => ⟨m, Nat.lt_succ_self m, n⟩, O3, ρ3, w3, f4, ρ4, w4, S3, e6, ?_⟩
      cases f4 with
      | nx => exact fun σ8 O8 H8 S8 x8 => ⟨O8, ρ4, w4, z, S8, x7.trans x8, e7, k2⟩
      | ct => exact fun σ8 O8 H8 S8 x8 => ⟨O8, ρ4, w4, z, S8, x7.trans x8, e7, k2⟩
      | bk =>
        cases e7
        exact fun σ8 O8 H8 S8 x8 => k2 σ8 O8 H8 S8 (x7.trans x8)
      | ret r =>
        cases e7
        exact fun v σ8 O8 H8 S8 R8 => k2 v σ8 O8 H8 S8 (R8.less x7)
end
end FD

end sec_FD5
section sec_FD6
set_option maxRecDepth 100000
set_option maxHeartbeats 5000000
/-! FD6: list comprehensions. -/
namespace FD
open PySem L2
variable [Tabl]
section
variable {c : Ct} {F : Fm} {O O' : List Addr} {ρ : Env} {w : W} {σ : L2.St} {H : Hp} {a : Addr}
theorem vis_congr (h : ∀ a, a ∈ O ↔ a ∈ O') : vis O H = vis O' H := by
  funext b
  by_cases q : b ∈ O
  · rw [vis_in q, vis_in ((h b).mp q)]
  · rw [vis_out q, vis_out fun z => q ((h b).mpr z)]
theorem SR.congr (S : SR c F O ρ w σ H) (h : ∀ a, a ∈ O ↔ a ∈ O') : SR c F O' ρ w σ H where
  len := S.len
  base := S.base
  new := fun b m n => S.new b ((h b).mpr m) n
  sub := fun b m => (h b).mp (S.sub b m)
  drs := S.drs
  trk := fun b m => S.trk b ((h b).mpr m)
  draw := S.draw
  val := fun i d q => by rw [← vis_congr h]; exact S.val i d q
  own := fun i d q => by
    rw [← vis_congr h]
    obtain ⟨b, o, h1, h2, h3⟩ := S.own i d q
    exact ⟨b, o, h1, (h b).mp h2, h3⟩
  uni := S.uni
/-- a hidden thing of no slot is shown -/
theorem SR.show (S : SR c F O ρ w σ H) (h0 : a ∉ F.O0) (nu : ∀ (j : Nat) e, ρ[j]? = some (some (Slot.own e)) → σ[j]? ≠ some (some (V.ref a))) : SR c F (O.filter fun b => decide (b ≠ a)) ρ w σ H ∧ Ex (vis O H) (vis (O.filter fun b => decide (b ≠ a)) H) := by
  have sub : ∀ b, b ∈ O.filter (fun b => decide (b ≠ a)) ↔ b ∈ O ∧ b ≠ a := fun b => by simp [List.mem_filter]
  have k : Ex (vis O H) (vis (O.filter (fun b => decide (b ≠ a))) H) := vis_sub fun b hb => ((sub b).mp hb).1
  refine ⟨⟨S.len, S.base, fun b hb => S.new b ((sub b).mp hb).1, fun b hb => (sub b).mpr ⟨S.sub b hb, fun z => h0 (z ▸ hb)⟩, S.drs, fun b hb => S.trk b ((sub b).mp hb).1, S.draw, fun j e q => ?_, fun j e q => ?_, S.uni⟩, k⟩
  · obtain ⟨v, q1, q2⟩ := S.val j e q
    exact ⟨v, q1, q2.mono k⟩
  · obtain ⟨b, u, q1, q2, q3, q4, q5⟩ := S.own j e q
    refine ⟨b, u, q1, (sub b).mpr ⟨q2, fun z => ?_⟩, q3, q4, q5.mono k⟩
    rw [z] at q1
    exact nu j e q q1
theorem tabs_upd {T : List (Addr × Str)} {H : Hp} {a : Addr} {o0 o : HO} (t : LamX.Tabs T H) (na : ∀ p ∈ T, p.1 ≠ a) (e0 : H a = some o0) (nx : ∀ φ, o0 ≠ .ext φ) : LamX.Tabs T (upd H a o) := fun p hp => by
  obtain ⟨ps, h1, h2, h3⟩ := t p hp
  refine ⟨ps, by rw [upd_ne (na p hp)]; exact h1, h2, fun pos cv hc => ?_⟩
  obtain ⟨c, e1, e2⟩ := h3 pos cv hc
  refine ⟨c, e1, ?_⟩
  rw [upd_ne fun z => ?_]
  · exact e2
  · rw [z, e0] at e2
    exact nx _ (Option.some.inj e2)
/-- a hidden thing of no slot is changed -/
theorem SR.poke {o0 : HO} (S : SR c F O ρ w σ H) (e0 : H a = some o0) (nx : ∀ φ, o0 ≠ .ext φ) (hO : a ∈ O) (h0 : a ∉ F.O0) (nu : ∀ (j : Nat) e, ρ[j]? = some (some (Slot.own e)) → σ[j]? ≠ some (some (V.ref a))) (o : HO) (nt : NT o := by intro _ z; cases z) : SR c F O ρ w σ (upd H a o) where
  len := S.len
  base := fun b u h n => by
    rw [upd_ne fun z => ?_]
    · exact S.base b u h n
    · rw [z, S.new a hO h0] at h
      cases h
  new := S.new
  sub := S.sub
  drs := S.drs
  trk := fun b h => by
    by_cases z : b = a
    · rw [z]
      exact ⟨o, upd_same, nt⟩
    · rw [upd_ne z]
      exact S.trk b h
  draw := by
    have nd : ∀ b ∈ F.dr.as, b ≠ a := fun b hb z => h0 (z ▸ S.drs b hb)
    exact ⟨fun t q => let ⟨q1, q2, q3, q4⟩ := S.draw.1 t q; ⟨by rw [upd_ne (nd _ (Dr.mem1 q))]; exact q1, by rw [upd_ne (nd _ (Dr.mem2 q))]; exact q2, by rw [upd_ne (nd _ (Dr.mem3 q))]; exact q3, q4⟩, tabs_upd S.draw.2 (fun p hp => nd p.1 (Dr.tab hp)) e0 nx⟩
  val := fun i d q => by
    rw [vis_upd hO]
    exact S.val i d q
  own := fun i d q => by
    rw [vis_upd hO]
    obtain ⟨b, u, q1, q2, q3, q4, q5⟩ := S.own i d q
    refine ⟨b, u, q1, q2, q3, ?_, q5⟩
    rw [upd_ne fun z => ?_]
    · exact q4
    · rw [z] at q1
      exact nu i d q q1
  uni := S.uni
theorem SR.setNone (S : SR c F O ρ w σ H) (i : Nat) : SR c F O (ρ.set i none) w (σ.set i none) H where
  len := by rw [List.length_set, List.length_set]; exact S.len
  base := S.base
  new := S.new
  sub := S.sub
  drs := S.drs
  trk := S.trk
  draw := S.draw
  val := fun j e h => by
    rcases getElem?_set_some h with ⟨rfl, z⟩ | ⟨n, h⟩
    · cases z
    · obtain ⟨u, h1, h2⟩ := S.val j e h
      exact ⟨u, by rw [List.getElem?_set_ne n]; exact h1, h2⟩
  own := fun j e h => by
    rcases getElem?_set_some h with ⟨rfl, z⟩ | ⟨n, h⟩
    · cases z
    · obtain ⟨a, o, h1, h2⟩ := S.own j e h
      exact ⟨a, o, by rw [List.getElem?_set_ne n]; exact h1, h2⟩
  uni := fun j j' e e' a h h' q q' => by
    rcases getElem?_set_some h with ⟨rfl, z⟩ | ⟨n, h⟩
    · cases z
    · rcases getElem?_set_some h' with ⟨rfl, z⟩ | ⟨n', h'⟩
      · cases z
      · rw [List.getElem?_set_ne n] at q
        rw [List.getElem?_set_ne n'] at q'
        exact S.uni j j' e e' a h h' q q'
def wipeE (ρ : Env) : List Nat → Env
  | [] => ρ
  | v :: vs => (wipeE ρ vs).set v none
theorem SR.wipe (S : SR c F O ρ w σ H) : ∀ vs : List Nat, SR c F O (wipeE ρ vs) w (L2.wipe σ vs) H
  | [] => S
  | v :: vs => (SR.wipe S vs).setNone v
/-- no slot of these is an own one -/
def noOwn (ρ : Env) (vs : List Nat) : Bool := vs.all fun i => match ρ[i]? with
  | some (some (.own _)) => false
  | _ => true
def restE (ρ0 ρ : Env) : List Nat → Env
  | [] => ρ
  | v :: vs => (restE ρ0 ρ vs).set v (ρ0[v]?.getD none)
theorem restE_len (ρ0 ρ : Env) : ∀ vs : List Nat, (restE ρ0 ρ vs).length = ρ.length
  | [] => rfl
  | v :: vs => by unfold restE; rw [List.length_set, restE_len ρ0 ρ vs]
theorem restE_get {ρ0 ρ : Env} {i : Nat} {s : Option Slot} : ∀ {vs : List Nat}, (restE ρ0 ρ vs)[i]? = some s → (i ∈ vs ∧ s = ρ0[i]?.getD none) ∨ (i ∉ vs ∧ ρ[i]? = some s)
  | [], h => .inr ⟨by simp, h⟩
  | v :: vs, h => by
    unfold restE at h
    rcases getElem?_set_some h with ⟨rfl, z⟩ | ⟨n, h⟩
    · exact .inl ⟨List.mem_cons_self, z.symm⟩
    · rcases restE_get h with ⟨m, z⟩ | ⟨m, z⟩
      · exact .inl ⟨List.mem_cons_of_mem _ m, z⟩
      · refine .inr ⟨fun y => ?_, z⟩
        rcases List.mem_cons.mp y with y | y
        · exact n y.symm
        · exact m y
theorem SR.rest {ρ2 : Env} {w2 : W} {O2 : List Addr} {H2 : Hp} {vs : List Nat} (S : SR c F O ρ w σ H) (no : noOwn ρ vs = true) (S2 : SR c F O2 ρ2 w2 (L2.wipe σ vs) H2) (x : Ex (vis O H) (vis O2 H2)) : SR c F O2 (restE ρ ρ2 vs) w2 σ H2 := by
  have nv : ∀ i ∈ vs, ∀ d, ρ[i]? ≠ some (some (Slot.own d)) := fun i hi d q => by
    have z := List.all_eq_true.mp no i hi
    rw [q] at z
    cases z
  have own' : ∀ {i : Nat} {d : D}, (restE ρ ρ2 vs)[i]? = some (some (Slot.own d)) → i ∉ vs ∧ ρ2[i]? = some (some (Slot.own d)) := fun {i d} h => by
    rcases restE_get h with ⟨m, z⟩ | h
    · cases q : ρ[i]? with
      | none =>
        rw [q] at z
        cases z
      | some t =>
        rw [q] at z
        have z' : some (Slot.own d) = t := z
        subst z'
        exact absurd q (nv i m d)
    · exact h
  refine ⟨by rw [restE_len, S2.len, wipe_length], S2.base, S2.new, S2.sub, S2.drs, S2.trk, S2.draw, fun i d h => ?_, fun i d h => ?_, fun i j d d' b h h' q q' => ?_⟩
  · rcases restE_get h with ⟨m, z⟩ | ⟨m, h⟩
    · cases q : ρ[i]? with
      | none =>
        rw [q] at z
        cases z
      | some t =>
        rw [q] at z
        have z' : some (Slot.val d) = t := z
        subst z'
        obtain ⟨v, h1, h2⟩ := S.val i d q
        exact ⟨v, h1, h2.mono x⟩
    · obtain ⟨v, h1, h2⟩ := S2.val i d h
      exact ⟨v, by rw [wipe_out m] at h1; exact h1, h2⟩
  · obtain ⟨m, h⟩ := own' h
    obtain ⟨b, o, h1, h2⟩ := S2.own i d h
    exact ⟨b, o, by rw [wipe_out m] at h1; exact h1, h2⟩
  · obtain ⟨m, h⟩ := own' h
    obtain ⟨m', h'⟩ := own' h'
    exact S2.uni i j d d' b h h' (by rw [wipe_out m]; exact q) (by rw [wipe_out m']; exact q')
end

/-- a comprehension's tests -/
def FTs (X : Cx) (ifs : List Expr) (t : M Bool) : Prop := ∀ F, PTs X ifs (tT (ct X) F t)
theorem PTs.wk {X : Cx} {e : List Expr} {t t' : TT} (h : PTs X e t) (k : ∀ σ H Q, t' σ H Q → t σ H Q) : PTs X e t' := ⟨fun pins s σ H Q I q => h.run pins s σ H Q I (k σ H Q q)⟩
theorem fts_nil {X : Cx} : FTs X [] (pureM true) := fun F => PTs.wk pts_nil fun σ H Q q => by
  obtain ⟨O, ρ, w, r, ρ', w', S, e, k⟩ := q
  cases e
  exact k O H S (Ex.refl _)
theorem fts_one {X : Cx} {e : Expr} {t : M Bool} (h : FT X e t) : FTs X [e] t := fun F => pts_one (h F)
/-- whatever the frame -/
def eE (c : Ct) (f : M RV) : TE := fun σ H Q => ∃ F, tE c F f σ H Q
def eT (c : Ct) (f : M Bool) : TT := fun σ H Q => ∃ F, tT c F f σ H Q
def eG (c : Ct) (js : List Nat) (g : D → M Unit) : TG := fun v σ H Q => ∃ F, tG c F js g v σ H Q
def eI (c : Ct) (f : M (List D)) : TI := fun σ H R => ∃ F, tI c F f σ H R
theorem FE.any {X : Cx} {e : Expr} {f : M RV} (h : FE X e f) : PE X e (eE (ct X) f) := ⟨fun pins s σ H Q I ⟨F, q⟩ => (h F).run pins s σ H Q I q⟩
theorem FTs.any {X : Cx} {e : List Expr} {f : M Bool} (h : FTs X e f) : PTs X e (eT (ct X) f) := ⟨fun pins s σ H Q I ⟨F, q⟩ => (h F).run pins s σ H Q I q⟩
theorem FG.any {X : Cx} {e : Expr} {js : List Nat} {g : D → M Unit} (h : FG X e js g) : PG X e (eG (ct X) js g) := ⟨fun pins s σ H v u Q I r ⟨F, q⟩ => (h F).run pins s σ H v u Q I r q⟩
theorem FI.any {X : Cx} {t e : Expr} {f : M (List D)} (h : FI X t e f) : PI X t e (eI (ct X) f) := ⟨fun pins s σ H Q I ⟨F, q⟩ => (h F).run pins s σ H Q I q⟩

/-! ### [elt for target in iter if ..] -/
def lcTurn (asg : D → M Unit) (test : M Bool) (elt : M RV) (d : D) : M (Option D) := bindM (asg d) fun _ => bindM test fun b => if b then bindM elt fun r => bindM (escR r) fun y => pureM (some y) else pureM none
def wipeM (vs : List Nat) : M Unit := fun ρ w => some ((), wipeE ρ vs, w)
def lcL (vs : List Nat) (asg : D → M Unit) (test : M Bool) (elt : M RV) : List D → M (List D)
  | [] => pureM []
  | d :: ds => bindM (lcTurn asg test elt d) fun y => bindM (wipeM vs) fun _ => bindM (lcL vs asg test elt ds) fun ys => pureM (y.toList ++ ys)
def lcM (fi : M (List D)) (vs : List Nat) (asg : D → M Unit) (test : M Bool) (elt : M RV) : M RV := bindM fi fun ds => fun ρ w =>
  if noOwn ρ vs = true ∧ ds.length ≤ 1000000 then match lcL vs asg test elt ds (wipeE ρ vs) w with
    | some (ys, ρ2, w2) => some (.fr (.lst ys), restE ρ ρ2 vs, w2)
    | none => none
  else none
theorem wipe_same {σ σ' : L2.St} {js vs : List Nat} (hl : σ'.length = σ.length) (h : ∀ j, j ∉ js → σ'[j]? = σ[j]?) (hj : ∀ j ∈ js, j ∈ vs) : L2.wipe σ' vs = L2.wipe σ vs := by
  apply List.ext_getElem?
  intro i
  by_cases m : i ∈ vs
  · have q : ∀ τ : L2.St, (L2.wipe τ vs)[i]? = if i < τ.length then some none else none := by
      intro τ
      clear hj h hl
      induction vs with
      | nil => cases m
      | cons v vs ih =>
        unfold L2.wipe
        by_cases e : v = i
        · subst e
          by_cases l : v < τ.length
          · rw [if_pos l, List.getElem?_set_self (by rw [wipe_length]; exact l)]
          · rw [if_neg l, List.getElem?_eq_none (by rw [List.length_set, wipe_length]; omega)]
        · rw [List.getElem?_set_ne e]
          rcases List.mem_cons.mp m with z | z
          · exact absurd z.symm e
          · exact ih z
    rw [q, q, hl]
  · rw [wipe_out m, wipe_out m]
    exact h i fun z => m (hj i z)
theorem wipe_wipe {σ : L2.St} (vs : List Nat) : L2.wipe (L2.wipe σ vs) vs = L2.wipe σ vs := wipe_same (wipe_length σ vs) (js := vs) (fun j hj => wipe_out hj) fun _ h => h
section
variable {c : Ct} {F : Fm} {σ : L2.St} {H : Hp} {Q : VK}
theorem lc_read {fi : M (List D)} {vs js : List Nat} {g : D → M Unit} {tt : M Bool} {fe : M RV} (hj : ∀ j ∈ js, j ∈ vs) (h : tE c F (lcM fi vs g tt fe) σ H Q) : tLc (eI c fi) (eG c js g) (eT c tt) (eE c fe) vs σ H Q := by
  obtain ⟨O, ρ, w, r, ρ', w', S, e, k⟩ := h
  obtain ⟨ds, ρ1, w1, e1, e2⟩ := bindM_some e
  by_cases hc : noOwn ρ1 vs = true ∧ ds.length ≤ 1000000
  · rw [if_pos hc] at e2
    obtain ⟨no, hl⟩ := hc
    split at e2
    · rename_i ys ρ2 w2 e3
      cases e2
      refine ⟨F, O, ρ, w, ds, ρ1, w1, S, e1, fun J O1 H1 S1 x1 W => ?_⟩
      intro Dl hD
      obtain ⟨S2, n2, k2⟩ := S1.hide hD (Ex.new (o := .lst []) hD) upd_same
      have nF : Dl ∉ F.O0 := fun z => n2 (S1.sub Dl z)
      have nu : ∀ {ρx : Env} {j : Nat} {e : D}, (∀ j e, ρx[j]? = some (some (Slot.own e)) → ∃ (a : Addr) (o : HO), (σ[j]? = some (some (V.ref a)) ∧ a ∈ O1)) → ρx[j]? = some (some (Slot.own e)) → σ[j]? ≠ some (some (V.ref Dl)) := fun hx q z => by
        obtain ⟨a, o, h1, h2⟩ := hx _ _ q
        rw [h1] at z
        cases z
        exact n2 h2
      -- the invariant
      refine ⟨fun i m H' => m = ds.length - i ∧ i ≤ ds.length ∧ ∃ O' ρ' wv acc dacc zs, SR c F O' ρ' wv (L2.wipe σ vs) H' ∧ Dl ∈ O' ∧ (∀ (j : Nat) e, ρ'[j]? = some (some (Slot.own e)) → (L2.wipe σ vs)[j]? ≠ some (some (V.ref Dl))) ∧ H' Dl = some (.lst acc) ∧ acc.length ≤ i ∧ RepAll c F.dr.da (vis O' H') acc dacc ∧
        Ex (vis O1 H1) (vis O' H') ∧ lcL vs g tt fe (ds.drop i) ρ' wv = some (zs, ρ2, w') ∧ dacc ++ zs = ys, ⟨ds.length, by simp, Nat.zero_le _, Dl :: O1, _, _, [], [], ys, S2.wipe vs, List.mem_cons_self, fun j e q z => ?_, upd_same, Nat.le_refl _, .nil, k2, by simpa using e3, rfl⟩, ?_⟩
      · obtain ⟨a, o, h1, h2, _⟩ := (S1.wipe vs).own j e q
        rw [h1] at z
        cases z
        exact n2 h2
      rintro i m H' ⟨rfl, hi, O3, ρ3, w3, acc, dacc, zs, S3, m3, u3, q3, l3, r3, x3, e4, ey⟩
      obtain ⟨hgo, hstop⟩ := W i O3 H' x3 S3.trk S3.cel
      by_cases hlt : i < ds.length
      · obtain ⟨go, yld⟩ := hgo ds[i] (by simp [hlt])
        rw [List.drop_eq_getElem_cons hlt] at e4
        obtain ⟨y, ρ4, w4, e5, e6⟩ := bindM_some e4
        obtain ⟨_, ρ5, w5, e7, e8⟩ := bindM_some e6
        obtain ⟨zs', ρ6, w6, e9, e10⟩ := bindM_some e8
        cases e7
        cases e10
        obtain ⟨_, ρ7, w7, e11, e12⟩ := bindM_some e5
        obtain ⟨b, ρ8, w8, e13, e14⟩ := bindM_some e12
        refine .inr ⟨go, fun H9 => ∃ O' ρ' wv acc dacc zs, SR c F O' ρ' wv (L2.wipe σ vs) H9 ∧ Dl ∈ O' ∧ (∀ (j : Nat) e, ρ'[j]? = some (some (Slot.own e)) → (L2.wipe σ vs)[j]? ≠ some (some (V.ref Dl))) ∧ H9 Dl = some (.lst acc) ∧ acc.length ≤ i + 1 ∧ RepAll c F.dr.da (vis O' H9) acc dacc ∧
          Ex (vis O1 H1) (vis O' H9) ∧ lcL vs g tt fe (ds.drop (i + 1)) ρ' wv = some (zs, ρ2, w') ∧ dacc ++ zs = ys, fun H9 n => ⟨ds.length - (i + 1), by omega, rfl, hlt, n⟩, fun x H4 yy => ?_⟩
        obtain ⟨x4, r4⟩ := yld x H4 yy
        have S4 := S3.grow x4
        have q4 := x4 _ _ q3
        have S5 : SR c (F.and Dl (.lst acc)) O3 ρ3 w3 (L2.wipe σ vs) H4 := ((S4.congr (O' := Dl :: O3) fun b => ⟨fun z => List.mem_cons_of_mem _ z, fun z => (List.mem_cons.mp z).elim (fun y => y ▸ m3) id⟩).in nF u3 q4).congr fun b => ⟨fun z => (List.mem_cons.mp z).elim (fun y => y ▸ m3) id, fun z => List.mem_cons_of_mem _ z⟩
        refine ⟨F.and Dl (.lst acc), O3, ρ3, w3, ds[i], ρ7, w7, S5, r4, e11, fun σ2 O5 S6 x6 hl6 hk6 => ?_⟩
        have ws : L2.wipe σ2 vs = L2.wipe σ vs := (wipe_same hl6 hk6 hj).trans (wipe_wipe vs)
        refine ⟨ws, F.and Dl (.lst acc), O5, ρ7, w7, b, ρ8, w8, S6, e13, fun O7 H7 S7 x7 => ?_⟩
        have x8 : Ex (vis O3 H') (vis O7 H7) := ((vis_mono x4).trans x6).trans x7
        cases b with
        | false =>
          cases e14
          obtain ⟨S8, q8, m8, u8⟩ := S7.out nF (S1.hide hD (Ex.new (o := .lst []) hD) upd_same |>.1.new Dl List.mem_cons_self nF) S1.drs
          have S9 := S8.wipe vs
          rw [ws] at S9
          exact ⟨O7, _, _, acc, dacc, zs', S9, m8, fun j e q z => by
            obtain ⟨a, o, h1, h2, h3, _⟩ := (S7.wipe vs).own j e q
            rw [ws] at h1
            rw [h1] at z
            cases z
            exact h3 List.mem_cons_self, q8, Nat.le_succ_of_le l3, r3.mono x8, x3.trans x8, e9, by simpa using ey⟩
        | true =>
          obtain ⟨r, ρ9, w9, e15, e16⟩ := bindM_some e14
          obtain ⟨yd, ρa, wa, e17, e18⟩ := bindM_some e16
          cases e18
          refine ⟨F.and Dl (.lst acc), O7, ρ8, w8, r, ρ9, w9, S7, e15, fun v O9 H9 S9 x9 R9 => ?_⟩
          obtain ⟨rfl, Oa, Sa, xa, ra⟩ := escR_ok S9 R9.hold e17
          obtain ⟨Sb, qb, mb, ub⟩ := Sa.out nF (S1.hide hD (Ex.new (o := .lst []) hD) upd_same |>.1.new Dl List.mem_cons_self nF) S1.drs
          have xb : Ex (vis O3 H') (vis Oa H9) := (x8.trans x9).trans xa
          refine ⟨acc, qb, Nat.lt_of_le_of_lt (Nat.le_trans l3 (Nat.le_trans hi hl)) (by decide), ?_⟩
          have Sc := (Sb.poke qb (fun _ z => nomatch z) mb nF ub (.lst (acc ++ [v]))).wipe vs
          rw [ws] at Sc
          refine ⟨Oa, _, _, acc ++ [v], dacc ++ [yd], zs', Sc, mb, fun j e q z => ?_, upd_same, by simp; omega, ?_, ?_, e9, by rw [List.append_assoc]; exact ey⟩
          · obtain ⟨a, o, h1, h2, h3, _⟩ := (Sa.wipe vs).own j e q
            rw [ws] at h1
            rw [h1] at z
            cases z
            exact h3 List.mem_cons_self
          · rw [vis_upd mb]
            exact (r3.mono xb).snoc ra
          · rw [vis_upd mb]
            exact x3.trans xb
      · have ei : i = ds.length := by omega
        subst ei
        rw [List.drop_length] at e4
        cases e4
        refine .inl ⟨hstop rfl, ?_⟩
        rw [List.append_nil] at ey
        subst ey
        have Sr := S1.rest no S3 x3
        have ur : ∀ (j : Nat) e, (restE ρ1 ρ2 vs)[j]? = some (some (Slot.own e)) → σ[j]? ≠ some (some (V.ref Dl)) := fun j e q z => by
          rcases restE_get q with ⟨m, y⟩ | ⟨m, y⟩
          · cases hq : ρ1[j]? with
            | none =>
              rw [hq] at y
              cases y
            | some t =>
              rw [hq] at y
              have y' : some (Slot.own e) = t := y
              subst y'
              have z := List.all_eq_true.mp no j m
              rw [hq] at z
              cases z
          · have z' := u3 j e y
            rw [wipe_out m] at z'
            exact z' z
        obtain ⟨Ss, xs⟩ := Sr.show nF ur
        have eqO : ∀ b, b ∈ O3 ↔ b ∈ Dl :: (O3.filter fun b => decide (b ≠ Dl)) := fun b => by
          simp only [List.mem_cons, List.mem_filter, decide_eq_true_eq]
          constructor
          · intro z
            by_cases y : b = Dl
            · exact .inl y
            · exact .inr ⟨z, y⟩
          · rintro (z | z)
            · rw [z]; exact m3
            · exact z.1
        refine k (.ref Dl) (O3.filter fun b => decide (b ≠ Dl)) H' Ss (x1.trans (x3.trans xs)) ⟨Dl, .lst acc, rfl, by simp, Sr.congr eqO, q3, .inl ⟨acc, dacc, rfl, rfl, ?_⟩, ?_⟩
        · rw [← vis_congr eqO]
          exact r3
        · rw [← vis_congr eqO]
          exact x1.trans x3
    · cases e2
  · rw [if_neg hc] at e2
    cases e2
end
section
variable {X : Cx} {elt tg iter : Expr} {ifs : List Expr} {scope : Scope} {own : List (Str × Nat)} {pos spos py : Pos} {fi : M (List D)} {js : List Nat} {g : D → M Unit} {tt : M Bool} {fe : M RV} {i : Nat} {y : Str}
theorem fe_lc (hc : X.calm = true) (hN : X.N.Nodup) (hi : FI X tg iter fi) (ok : BlkOk X.N X.env.scope scope own)
    (hg : ∀ (s : Shared) (H : Hp) (C : Addr) (cl : List (Str × Addr)) (fp : List Addr), FG (X.blk s H scope (compEnvC scope cl C X.env) fp) tg js g) (ht : ∀ (s : Shared) (H : Hp) (C : Addr) (cl : List (Str × Addr)) (fp : List Addr), FTs (X.blk s H scope (compEnvC scope cl C X.env) fp) ifs tt)
    (he : ∀ (s : Shared) (H : Hp) (C : Addr) (cl : List (Str × Addr)) (fp : List Addr), FE (X.blk s H scope (compEnvC scope cl C X.env) fp) elt fe) (hj : ∀ j ∈ js, j ∈ own.map (·.2) := by decide) (hs : ∀ x, foldedSetIterable iter X.env x = pure x := by intro _; rfl) :
    FE X (.ListComp elt [⟨tg, iter, ifs, 0⟩] scope pos) (lcM fi (own.map (·.2)) g tt fe) := fun F =>
  PE.wk (pe_lc hc hN hi.any ok (fun s H C cl fp => (hg s H C cl fp).any) (fun s H C cl fp => (ht s H C cl fp).any) (fun s H C cl fp => (he s H C cl fp).any) hs) fun σ H Q q => lc_read hj q
theorem fs_setLc (hc : X.calm = true) (hN : X.N.Nodup) (hy : X.N[i]? = some y) (hyl : X.env.scope.names.lookup y = some .local)
    (hsw : swapsWith (.ListComp elt [⟨tg, iter, ifs, 0⟩] scope pos) (some (.Name y py)) spos.line X.env = pure true) (hi : FI X tg iter fi) (ok : BlkOk X.N X.env.scope scope own)
    (hg : ∀ (s : Shared) (H : Hp) (C : Addr) (cl : List (Str × Addr)) (fp : List Addr), FG (X.blk s H scope (compEnvC scope cl C X.env) fp) tg js g) (ht : ∀ (s : Shared) (H : Hp) (C : Addr) (cl : List (Str × Addr)) (fp : List Addr), FTs (X.blk s H scope (compEnvC scope cl C X.env) fp) ifs tt)
    (he : ∀ (s : Shared) (H : Hp) (C : Addr) (cl : List (Str × Addr)) (fp : List Addr), FE (X.blk s H scope (compEnvC scope cl C X.env) fp) elt fe) (hj : ∀ j ∈ js, j ∈ own.map (·.2) := by decide) (hs : ∀ x, foldedSetIterable iter X.env x = pure x := by intro _; rfl) :
    FS X (.Assign [.Name y py] (.ListComp elt [⟨tg, iter, ifs, 0⟩] scope pos) spos) (bindM (lcM fi (own.map (·.2)) g tt fe) fun r => nxM (asgM i r)) := fun F =>
  PS.wk (ps_setLc hc hN hy hyl hsw hi.any ok (fun s H C cl fp => (hg s H C cl fp).any) (fun s H C cl fp => (ht s H C cl fp).any) (fun s H C cl fp => (he s H C cl fp).any) hs) fun E σ H q => by
    obtain ⟨O, ρ, w, fl, ρ', w', S, e, k⟩ := q
    refine lc_read (F := F) hj (tE_then S e fun v O1 ρ1 w1 H1 r1 S1 e1 R1 h1 => ?_)
    obtain ⟨_, ρ2, w2, h2, h3⟩ := bindM_some h1
    obtain ⟨rfl, O2, S2, x2⟩ := asg_ok S1 e1 R1 h2
    cases h3
    exact k _ O2 H1 S2 x2
end
end FD

end sec_FD6
section sec_FD7
set_option maxRecDepth 100000
set_option maxHeartbeats 5000000
/-! FD7: a def by its body; __init__ and C(..); stores into what a slot owns. -/
namespace FD
open PySem L2
variable [Tabl]
open PyProof.Rows (envOfC)

/-! ### a def -/
def startE (n : Nat) (ds : List D) : Env := ds.map (fun d => some (Slot.val d)) ++ List.replicate (n - ds.length) none
def outR (ρ : Env) : RV → Option RV
  | .ow i => match ρ[i]? with
    | some (some (.own d)) => some (.fr d)
    | some (some (.val d)) => some (.sh d)
    | _ => none
  | r => some r
def endB : Option (Fl × Env × W) → Option (RV × W)
  | some (.ret r, ρ, w) => (outR ρ r).map fun r' => (r', w)
  | some (.nx, _, w) => some (.sh .non, w)
  | _ => none
def denB (n : Nat) (body : M Fl) : List D → W → Option (RV × W) := fun ds w => endB (body (startE n ds) w)
theorem startE_own {n : Nat} {ds : List D} {i : Nat} {d : D} (h : (startE n ds)[i]? = some (some (Slot.own d))) : False := by
  unfold startE at h
  rw [List.getElem?_append] at h
  split at h
  · rw [List.getElem?_map] at h
    cases q : ds[i]? with
    | none =>
      rw [q] at h
      cases h
    | some e =>
      rw [q] at h
      cases h
  · rw [List.getElem?_replicate] at h
    split at h
    · cases h
    · cases h
theorem startE_val {n : Nat} {ds : List D} {i : Nat} {d : D} (h : (startE n ds)[i]? = some (some (Slot.val d))) : ds[i]? = some d := by
  unfold startE at h
  rw [List.getElem?_append] at h
  split at h
  · rw [List.getElem?_map] at h
    cases q : ds[i]? with
    | none =>
      rw [q] at h
      cases h
    | some e =>
      rw [q] at h
      cases h
      rfl
  · rw [List.getElem?_replicate] at h
    split at h
    · cases h
    · cases h
theorem start_get {N : List Str} {vs : List V} {i : Nat} {v : V} (h : vs[i]? = some v) : (L2.start N vs)[i]? = some (some v) := by
  unfold L2.start
  rw [List.getElem?_append_left (by rw [List.length_map]; exact (List.getElem?_eq_some_iff.mp h).1), List.getElem?_map, h]
  rfl
section
variable {c : Ct} {F : Fm} {G : Hp} {O : List Addr} {ρ : Env} {w w' : W} {σ : L2.St} {H : Hp} {r r' : RV} {v : V}
theorem outR_ok (S : SR c F O ρ w σ H) (R : RepR c F G O ρ w σ H r v) (e : outR ρ r = some r') : RepN c F.dr.da F.O0 F.H0 H r' v := by
  cases r with
  | sh d =>
    cases e
    exact Rep.mono (vis_sub S.sub) R
  | fr d =>
    cases e
    obtain ⟨a, o, rfl, n, S1, q, ob, x1⟩ := R
    have nF : a ∉ F.O0 := fun z => n (S.sub a z)
    refine ⟨a, o, rfl, S1.new a List.mem_cons_self nF, q, ob.mono (vis_sub fun b hb => ?_)⟩
    rcases List.mem_cons.mp hb with z | z
    · rw [z]
      exact List.mem_cons_self
    · exact List.mem_cons_of_mem _ (S.sub b z)
  | ow i =>
    obtain ⟨h1, d, h2⟩ := R
    unfold outR at e
    dsimp only at e
    rw [h2] at e
    cases e
    obtain ⟨a, o, q1, q2, q3, q4, q5⟩ := S.own i d h2
    rw [h1] at q1
    cases q1
    refine ⟨a, o, rfl, S.new a q2 q3, q4, q5.mono (vis_sub fun b hb => ?_)⟩
    rcases List.mem_cons.mp hb with z | z
    · rw [z]
      exact q2
    · exact S.sub b z
end
section
variable {P : Program} {w : World} {K : PySem.W.Frag} {mg : Str → Option Value} {base : Heap}
theorem start_sr {dr : Dr} {O0 : List Addr} {wd : W} {N : List Str} {vs : List V} {ds : List D} {H : Hp} (h1 : ∀ a ∈ dr.as, a ∈ O0) (h2 : ∀ a ∈ O0, ∃ o, H a = some o ∧ NT o) (h3 : DrawAt dr wd H) (h4 : RepAll ⟨K, mg⟩ dr.da (vis O0 H) vs ds) : SR ⟨K, mg⟩ ⟨dr, O0, H⟩ O0 (startE N.length ds) wd (L2.start N vs) H where
  len := by unfold startE L2.start; simp [h4.length]
  base := fun _ _ h _ => h
  new := fun a h n => absurd h n
  sub := fun _ h => h
  drs := h1
  trk := h2
  draw := h3
  val := fun i d h => by
    obtain ⟨v, q1, q2⟩ := h4.get (startE_val h)
    exact ⟨v, start_get q1, q2⟩
  own := fun i d h => (startE_own h).elim
  uni := fun i j d d' a h => (startE_own h).elim
theorem def_ok {x qual : Str} {st : Stmt} {f : Addr} {fd : FuncData} {N ps : List Str} {k : Nat} {fb : M Fl} (F : Fun K x qual st f fd) (S : FnScope N ps (defScope st))
    (hb : ∀ (cdv : Value) (A : Around) (outer : List PySem.Env) (s : Shared) (H : Hp) (E : XK), Room k (A.deeper (envOfC qual (defScope st) s.heap.objs.size f cdv)) → FSs (cxOf CX0 P w K mg base N qual (defScope st) f cdv A outer s H E).nox (defBody st) fb) :
    FnOk P w K mg base CX0 (k + 1) f fd ps (spD ⟨K, mg⟩ ps.length (denB N.length fb)) := by
  obtain ⟨oc, od, kV, doc, pm, an, cdv, ctt, osl, rfl, lk, hcd⟩ := F.ex
  refine fn_of lk hcd S (fun _ _ _ _ h => ?_) fun A outer s H vs Q E hr h => ?_
  · obtain ⟨dr, O0, wd, ds, r, w', _, _, _, h4, h5, _⟩ := h
    rw [h4.length, h5]
  · obtain ⟨dr, O0, wd, ds, r, w', h1, h2, h3, h4, h5, h6, k6⟩ := h
    refine ⟨_, PSs.nox (hb cdv A outer s H E hr ⟨dr, O0, H⟩), ?_⟩
    unfold denB at h6
    cases e : fb (startE N.length ds) wd with
    | none =>
      rw [e] at h6
      cases h6
    | some z =>
      obtain ⟨fl, ρ', w2⟩ := z
      rw [e] at h6
      refine ⟨O0, _, wd, fl, ρ', w2, start_sr h1 h2 h3 h4, e, ?_⟩
      cases fl with
      | nx =>
        cases h6
        intro σ O H' S' _
        exact k6 .non H' (fun a o q n => S'.base a o q n) S'.draw .non
      | ret r1 =>
        intro v σ O H' S' R'
        have h6 : (outR ρ' r1).map (fun r' => (r', w2)) = some (r, w') := h6
        cases q : outR ρ' r1 with
        | none =>
          rw [q] at h6
          cases h6
        | some r2 =>
          rw [q] at h6
          cases h6
          exact k6 v H' (fun a o q n => S'.base a o q n) S'.draw (outR_ok S' R' q)
      | bk => cases h6
      | ct => cases h6
theorem def_okE {x qual : Str} {st : Stmt} {f : Addr} {cd : Value} {fd : FuncData} {N ps : List Str} {k : Nat} {fb : M Fl} (F : Fun K x qual st f fd) (S : FnScope N ps (defScope st))
    (hcd : ∀ oc od kV doc pm an cdv ct osl, K.lookup f = some ⟨oc, od, .func (PySem.W.fnOf x qual (defArgs st) (defBody st) (defScope st) .none kV doc pm an cdv ct), osl⟩ → cdv = cd)
    (hb : ∀ (A : Around) (outer : List PySem.Env) (s : Shared) (H : Hp) (E : XK), Room k (A.deeper (envOfC qual (defScope st) s.heap.objs.size f cd)) → FSs (cxOf CX0 P w K mg base N qual (defScope st) f cd A outer s H E).nox (defBody st) fb) :
    FnOk P w K mg base CX0 (k + 1) f fd ps (spD ⟨K, mg⟩ ps.length (denB N.length fb)) := by
  obtain ⟨oc, od, kV, doc, pm, an, cdv, ctt, osl, rfl, lk, hcd'⟩ := F.ex
  obtain rfl := hcd _ _ _ _ _ _ _ _ _ lk
  refine fn_of lk hcd' S (fun _ _ _ _ h => ?_) fun A outer s H vs Q E hr h => ?_
  · obtain ⟨dr, O0, wd, ds, r, w', _, _, _, h4, h5, _⟩ := h
    rw [h4.length, h5]
  · obtain ⟨dr, O0, wd, ds, r, w', h1, h2, h3, h4, h5, h6, k6⟩ := h
    refine ⟨_, PSs.nox (hb A outer s H E hr ⟨dr, O0, H⟩), ?_⟩
    unfold denB at h6
    cases e : fb (startE N.length ds) wd with
    | none =>
      rw [e] at h6
      cases h6
    | some z =>
      obtain ⟨fl, ρ', w2⟩ := z
      rw [e] at h6
      refine ⟨O0, _, wd, fl, ρ', w2, start_sr h1 h2 h3 h4, e, ?_⟩
      cases fl with
      | nx =>
        cases h6
        intro σ O H' S' _
        exact k6 .non H' (fun a o q n => S'.base a o q n) S'.draw .non
      | ret r1 =>
        intro v σ O H' S' R'
        have h6 : (outR ρ' r1).map (fun r' => (r', w2)) = some (r, w') := h6
        cases q : outR ρ' r1 with
        | none =>
          rw [q] at h6
          cases h6
        | some r2 =>
          rw [q] at h6
          cases h6
          exact k6 v H' (fun a o q n => S'.base a o q n) S'.draw (outR_ok S' R' q)
      | bk => cases h6
      | ct => cases h6
theorem def_okD {x qual : Str} {params : Arguments} {body : List Stmt} {scope : Scope} {dvs : List V} {kws : List (Str × V)} {f : Addr} {fd : FuncData} {N ps : List Str} {k : Nat} {fb : M Fl} (F : FunD K x qual params body scope dvs kws f fd) (S : FnScope N ps scope)
    (hb : ∀ (cdv : Value) (A : Around) (outer : List PySem.Env) (s : Shared) (H : Hp) (E : XK), Room k (A.deeper (envOfC qual scope s.heap.objs.size f cdv)) → FSs (cxOf CX0 P w K mg base N qual scope f cdv A outer s H E).nox body fb) :
    FnOk P w K mg base CX0 (k + 1) f fd ps (spD ⟨K, mg⟩ ps.length (denB N.length fb)) := by
  obtain ⟨oc, od, dV, kV, doc, pm, an, cdv, ctt, osl, rfl, lk, hcd, _, _⟩ := F.ex
  refine fn_of lk hcd S (fun _ _ _ _ h => ?_) fun A outer s H vs Q E hr h => ?_
  · obtain ⟨dr, O0, wd, ds, r, w', _, _, _, h4, h5, _⟩ := h
    rw [h4.length, h5]
  · obtain ⟨dr, O0, wd, ds, r, w', h1, h2, h3, h4, h5, h6, k6⟩ := h
    refine ⟨_, PSs.nox (hb cdv A outer s H E hr ⟨dr, O0, H⟩), ?_⟩
    unfold denB at h6
    cases e : fb (startE N.length ds) wd with
    | none =>
      rw [e] at h6
      cases h6
    | some z =>
      obtain ⟨fl, ρ', w2⟩ := z
      rw [e] at h6
      refine ⟨O0, _, wd, fl, ρ', w2, start_sr h1 h2 h3 h4, e, ?_⟩
      cases fl with
      | nx =>
        cases h6
        intro σ O H' S' _
        exact k6 .non H' (fun a o q n => S'.base a o q n) S'.draw .non
      | ret r1 =>
        intro v σ O H' S' R'
        have h6 : (outR ρ' r1).map (fun r' => (r', w2)) = some (r, w') := h6
        cases q : outR ρ' r1 with
        | none =>
          rw [q] at h6
          cases h6
        | some r2 =>
          rw [q] at h6
          cases h6
          exact k6 v H' (fun a o q n => S'.base a o q n) S'.draw (outR_ok S' R' q)
      | bk => cases h6
      | ct => cases h6
end


/-! ### __init__ and C(..): the new object stands at a, hidden, of no slot; gs its attributes -/
def putD (f : Str) (d : D) : List (Str × D) → List (Str × D)
  | [] => [(f, d)]
  | (g, e) :: r => if g = f then (g, d) :: r else (g, e) :: putD f d r
theorem RepF.put {c : Ct} {da : Option Addr} {G : Hp} {f : Str} {v : V} {d : D} (h : Rep c da G v d) : ∀ {fs : List (Str × V)} {gs : List (Str × D)}, RepF c da G fs gs → RepF c da G (putF f v fs) (putD f d gs)
  | _, _, .nil => .cons h .nil
  | _, _, .cons (k := k) q r => by
    unfold putF putD
    by_cases e : k = f
    · rw [if_pos e, if_pos e]
      exact .cons h r
    · rw [if_neg e, if_neg e]
      exact .cons q (RepF.put h r)
theorem RepF.length {c : Ct} {da : Option Addr} {G : Hp} : ∀ {fs : List (Str × V)} {gs : List (Str × D)}, RepF c da G fs gs → fs.length = gs.length
  | _, _, .nil => rfl
  | _, _, .cons _ r => by simp [RepF.length r]
abbrev MJ := List (Str × D) → M (List (Str × D))
def NoSlot (ρ : Env) (σ : L2.St) (a : Addr) : Prop := ∀ (j : Nat) e, ρ[j]? = some (some (Slot.own e)) → σ[j]? ≠ some (some (V.ref a))
def tJ (c : Ct) (F : Fm) (a C : Addr) (f : MJ) : TS := fun E σ H => ∃ O ρ w gs gs' ρ' w', SR c F O ρ w σ H ∧ σ[0]? = some (some (V.ref a)) ∧ a ∈ O ∧ a ∉ F.O0 ∧ NoSlot ρ σ a ∧ (∃ dx fs, H a = some (.ins C dx fs) ∧ RepF c F.dr.da (vis O H) fs gs) ∧ f gs ρ w = some (gs', ρ', w') ∧
  ∀ O' H', SR c F O' ρ' w' σ H' → a ∈ O' → (∃ dx fs, H' a = some (.ins C dx fs) ∧ RepF c F.dr.da (vis O' H') fs gs') → E.nx σ H'
def FJ (X : Cx) (cn : Str) (sts : List Stmt) (f : MJ) : Prop := ∀ F a C, X.mg cn = some (.ref C) → PSs X sts (tJ (ct X) F a C f)
section
variable {X : Cx} {cn f x : Str} {e : Expr} {sts : List Stmt} {g : MJ} {fe : M RV} {pos pos' p : Pos}
theorem fj_nil : FJ X cn [] (fun gs => pureM gs) := fun F a C mc => PSs.wk pss_nil fun E σ H q => by
  obtain ⟨O, ρ, w, gs, gs', ρ', w', S, h0, hO, hF, nu, ob, e, k⟩ := q
  cases e
  exact k O H S hO ob
theorem hide_in {c : Ct} {F : Fm} {O : List Addr} {ρ : Env} {w : W} {σ : L2.St} {H : Hp} {a : Addr} {o : HO} (S : SR c F O ρ w σ H) (hO : a ∈ O) (hF : a ∉ F.O0) (nu : NoSlot ρ σ a) (q : H a = some o) : SR c (F.and a o) O ρ w σ H :=
  ((S.congr (O' := a :: O) fun b => ⟨fun z => List.mem_cons_of_mem _ z, fun z => (List.mem_cons.mp z).elim (fun y => y ▸ hO) id⟩).in hF nu q).congr fun b => ⟨fun z => (List.mem_cons.mp z).elim (fun y => y ▸ hO) id, fun z => List.mem_cons_of_mem _ z⟩
/-- an expression ahead of the rest -/
theorem fj_expr (he : FE X e fe) (hr : FJ X cn sts g) (hs : swapsWith e none pos.line X.env = pure false := by rfl) : FJ X cn (.Expr e pos :: sts) (fun gs => bindM fe fun _ => g gs) := fun F a C mc => PSs.wk (pss_cons (ps_expr he.any hs) (hr F a C mc)) fun E σ H q => by
  obtain ⟨O, ρ, w, gs, gs', ρ', w', S, h0, hO, hF, nu, ⟨dx, fs, ha, rf⟩, e, k⟩ := q
  refine ⟨F.and a (.ins C dx fs), tE_then (hide_in S hO hF nu ha) e fun v O1 ρ1 w1 H1 r1 S1 e1 R1 h1 => ?_⟩
  obtain ⟨S2, q2, m2, u2⟩ := S1.out hF (S.new a hO hF) S.drs
  exact ⟨O1, ρ1, w1, gs, gs', ρ', w', S2, h0, m2, hF, u2, ⟨dx, fs, q2, rf.mono e1⟩, h1, k⟩
/-- self.f = e ahead of the rest -/
theorem fj_fld (cl : FldD X.K X.mg cn f) (hv : PE X (.Name x p) (tVar 0)) (he : FE X e fe) (hr : FJ X cn sts g) (hs : swapsWith e (some (.Attribute (.Name x p) f pos')) pos.line X.env = pure false := by rfl) :
    FJ X cn (.Assign [.Attribute (.Name x p) f pos'] e pos :: sts) (fun gs => bindM fe fun r => bindM (escR r) fun d => if gs.length < 900 then g (putD f d gs) else failM) := fun F a C mc => PSs.wk (pss_cons (ps_fld hv he.any hs) (hr F a C mc)) fun E σ H q => by
  obtain ⟨O, ρ, w, gs, gs', ρ', w', S, h0, hO, hF, nu, ⟨dx, fs, ha, rf⟩, e, k⟩ := q
  obtain ⟨C', mc', cls, na⟩ := cl.ex
  have eC : C' = C := by
    rw [mc] at mc'
    cases mc'
    rfl
  subst eC
  refine ⟨F.and a (.ins C' dx fs), tE_then (hide_in S hO hF nu ha) e fun v O1 ρ1 w1 H1 r1 S1 e1 R1 h1 => ?_⟩
  obtain ⟨d, ρ2, w2, h2, h3⟩ := bindM_some h1
  obtain ⟨rfl, O2, S2, k2, r2⟩ := escR_ok S1 R1.hold h2
  obtain ⟨S3, q3, m3, u3⟩ := S2.out hF (S.new a hO hF) S.drs
  by_cases hl : gs.length < 900
  · rw [if_pos hl] at h3
    refine ⟨.ref a, h0, a, C', dx, fs, rfl, q3, cls, na, by rw [rf.length]; omega, ?_⟩
    have S4 := S3.poke q3 (fun _ z => nomatch z) m3 hF u3 (.ins C' dx (putF f v fs))
    refine ⟨O2, ρ2, _, putD f d gs, gs', ρ', w', S4, h0, m3, hF, u3, ⟨dx, _, upd_same, ?_⟩, h3, k⟩
    rw [vis_upd m3]
    exact (rf.mono (e1.trans k2)).put r2
  · rw [if_neg hl] at h3
    cases h3
end
def spI (c : Ct) (n : Nat) (cn : Str) (den : List D → W → Option (List (Str × D) × W)) : Sp := fun vs H Q _ => ∃ a C dx vs' dr O0 w ds gs w', vs = .ref a :: vs' ∧ c.mg cn = some (.ref C) ∧ H a = some (.ins C dx []) ∧ a ∉ O0 ∧ (∀ b ∈ dr.as, b ∈ O0) ∧ (∀ b ∈ O0, ∃ o, H b = some o ∧ NT o) ∧ DrawAt dr w H ∧
  RepAll c dr.da (vis (a :: O0) H) vs' ds ∧ ds.length + 1 = n ∧ den ds w = some (gs, w') ∧
  ∀ H' dx' fs, (∀ b o, H b = some o → b ≠ a → b ∉ dr.as → H' b = some o) → DrawAt dr w' H' → H' a = some (.ins C dx' fs) → RepF c dr.da (vis (a :: O0) H') fs gs → Q .non H'
def denI (n : Nat) (body : MJ) : List D → W → Option (List (Str × D) × W) := fun ds w => (body [] (none :: startE (n - 1) ds) w).map fun z => (z.1, z.2.2)
section
variable {P : Program} {w : World} {K : PySem.W.Frag} {mg : Str → Option Value} {base : Heap}
theorem init_sr {dr : Dr} {O0 : List Addr} {wd : W} {N : List Str} {vs : List V} {ds : List D} {H : Hp} {a C dx : Addr} (ha : H a = some (.ins C dx [])) (na : a ∉ O0) (h1 : ∀ b ∈ dr.as, b ∈ O0) (h2 : ∀ b ∈ O0, ∃ o, H b = some o ∧ NT o) (h3 : DrawAt dr wd H) (h4 : RepAll ⟨K, mg⟩ dr.da (vis (a :: O0) H) vs ds) :
    SR ⟨K, mg⟩ ⟨dr, O0, fun b => if b = a then none else H b⟩ (a :: O0) (none :: startE (N.length - 1) ds) wd (L2.start N (.ref a :: vs)) H ∧ (L2.start N (.ref a :: vs))[0]? = some (some (V.ref a)) := by
  have es : L2.start N (.ref a :: vs) = some (.ref a) :: (vs.map some ++ List.replicate (N.length - 1 - vs.length) none) := by
    unfold L2.start
    rw [List.map_cons, List.cons_append, List.length_cons, Nat.sub_sub, Nat.add_comm]
  have gs : ∀ {i : Nat} {v : V}, vs[i]? = some v → (vs.map some ++ List.replicate (N.length - 1 - vs.length) none)[i]? = some (some v) := fun {i v} h => by
    rw [List.getElem?_append_left (by rw [List.length_map]; exact (List.getElem?_eq_some_iff.mp h).1), List.getElem?_map, h]
    rfl
  refine ⟨⟨?_, fun b o h n => ?_, fun b h n => ?_, fun b h => List.mem_cons_of_mem _ h, h1, fun b h => ?_, h3, fun i d h => ?_, fun i d h => ?_, fun i j d d' b h h' q q' => ?_⟩, by rw [es]; rfl⟩
  · rw [es]
    unfold startE
    simp [h4.length]
  · have h : (if b = a then none else H b) = some o := h
    split at h
    · cases h
    · exact h
  · rcases List.mem_cons.mp h with z | z
    · exact if_pos z
    · exact absurd z n
  · rcases List.mem_cons.mp h with z | z
    · rw [z]
      exact ⟨_, ha, fun _ z => nomatch z⟩
    · exact h2 b z
  · rw [es]
    cases i with
    | zero => cases h
    | succ i =>
      obtain ⟨v, q1, q2⟩ := h4.get (startE_val (by simpa using h))
      exact ⟨v, by simpa using gs q1, q2⟩
  · cases i with
    | zero => cases h
    | succ i => exact (startE_own (by simpa using h)).elim
  · cases i with
    | zero => cases h
    | succ i => exact (startE_own (by simpa using h)).elim
theorem init_ok {cn qual : Str} {params : Arguments} {body : List Stmt} {scope : Scope} {dvs : List V} {kws : List (Str × V)} {f : Addr} {fd : FuncData} {N ps : List Str} {k : Nat} {fb : MJ} (F : FunD K "__init__" qual params body scope dvs kws f fd) (S : FnScope N ps scope)
    (hb : ∀ (cdv : Value) (A : Around) (outer : List PySem.Env) (s : Shared) (H : Hp) (E : XK), Room k (A.deeper (envOfC qual scope s.heap.objs.size f cdv)) → FJ (cxOf CX0 P w K mg base N qual scope f cdv A outer s H E).nox cn body fb) :
    FnOk P w K mg base CX0 (k + 1) f fd ps (spI ⟨K, mg⟩ ps.length cn (denI N.length fb)) := by
  obtain ⟨oc, od, dV, kV, doc, pm, an, cdv, ctt, osl, rfl, lk, hcd, _, _⟩ := F.ex
  refine fn_of lk hcd S (fun _ _ _ _ h => ?_) fun A outer s H vs Q E hr h => ?_
  · obtain ⟨a, C, dx, vs', dr, O0, wd, ds, gs, w', rfl, mc, ha, na, _, _, _, h4, h5, _⟩ := h
    rw [List.length_cons, h4.length, h5]
  · obtain ⟨a, C, dx, vs', dr, O0, wd, ds, gs, w', rfl, mc, ha, na, h1, h2, h3, h4, h5, h6, k6⟩ := h
    refine ⟨_, PSs.nox (hb cdv A outer s H E hr ⟨dr, O0, fun b => if b = a then none else H b⟩ a C mc), ?_⟩
    unfold denI at h6
    cases e : fb [] (none :: startE (N.length - 1) ds) wd with
    | none =>
      rw [e] at h6
      cases h6
    | some z =>
      obtain ⟨gs', ρ', w2⟩ := z
      rw [e] at h6
      cases h6
      obtain ⟨S0, s0⟩ := init_sr (N := N) ha na h1 h2 h3 h4
      refine ⟨a :: O0, _, wd, [], gs', ρ', w2, S0, s0, List.mem_cons_self, na, fun j e q => ?_, ⟨dx, [], ha, .nil⟩, e, fun O' H' S' mO ob => ?_⟩
      · cases j with
        | zero => cases q
        | succ j => exact (startE_own (by simpa using q)).elim
      · obtain ⟨dx', fs, ha', rf⟩ := ob
        refine k6 H' dx' fs (fun b o q n nd => S'.base b o (by show (if b = a then none else H b) = some o; rw [if_neg n]; exact q) nd) S'.draw ha' ?_
        refine rf.mono fun b o q => ?_
        obtain ⟨nb, q⟩ := vis_some q
        have hb : b ≠ a := fun z => nb (z ▸ mO)
        rw [vis_out fun z => ?_]
        · exact q
        · rcases List.mem_cons.mp z with z | z
          · exact hb z
          · exact nb (S'.sub b z)
end
end FD

end sec_FD7
section sec_ST1
set_option maxRecDepth 100000
set_option maxHeartbeats 5000000
/-! ST1: set(text). The library adds a text that is new to a set (Froz.add_x); here also one that is there, and the walk over a text's signs. -/
namespace ST
open PySem PySem.Spec PyProof.Rows L2
open PySem.Froz (SD sObj TxOk addTx tailTx add_x add_ok)
def nameOf : Value → Str
  | .str k _ => k
  | _ => Str.empty
def names (l : List (Int × Value)) : List Str := l.map fun e => nameOf e.2
/-- the payload D of a set holds the texts l, each once, and can be walked -/
structure Holds (P : Program) (w : World) (D : SD) (l : List Str) : Prop where
  tx : TxOk P w D l
  str : ∀ e ∈ D.1.toList, ∃ k u, e.2 = Value.str k u
  perm : (names D.1.toList).Perm l
  ris : Ris D.2.2.place.toList
  led : w.params.followText "set-order" = true ∨ D.2.2.led = true
section
variable {P : Program} {w : World} {D : SD} {l : List Str} {k : Str} {u : Tok}
theorem Holds.relaid {es : Array (Int × Value)} {ep ep2 n : Nat} {t : SetTable} (h : Holds P w (es, ep, t) l) (tx : TxOk P w ((relayAll t es n).1, ep2, (relayAll t es n).2.1) l) : Holds P w ((relayAll t es n).1, ep2, (relayAll t es n).2.1) l := by
  have pm := relayAll_perm t es n
  refine ⟨tx, fun e he => h.str e (pm.mem_iff.mp he), (pm.map _).trans h.perm, relayAll_ris t es n, ?_⟩
  rcases h.led with z | z
  · exact Or.inl z
  · exact Or.inr ((relayAll_led t es n).trans z)
theorem Holds.laid {es : Array (Int × Value)} {ep : Nat} {t t2 : SetTable} {i : Int} (h : Holds P w (es, ep, t) l) (ep2 : Nat) (same : t2.place = (layNew t es i (.str k u)).2.1.place ∧ t2.led = (layNew t es i (.str k u)).2.1.led) (tx : TxOk P w ((layNew t es i (.str k u)).1, ep2, t2) (k :: l)) :
    Holds P w ((layNew t es i (.str k u)).1, ep2, t2) (k :: l) := by
  have pm := layNew_perm t es i (.str k u)
  rw [Array.toList_push] at pm
  have pc := pm.trans (List.perm_append_singleton _ _)
  refine ⟨tx, fun e he => ?_, (pc.map _).trans (h.perm.cons k), ?_, ?_⟩
  · rcases List.mem_cons.mp (pc.mem_iff.mp he) with rfl | old
    · exact ⟨k, u, rfl⟩
    · exact h.str e old
  · rw [same.1]
    exact layNew_ris t es i _ h.ris
  · rw [same.2, layNew_led]
    exact h.led
theorem Holds.add (h : Holds P w D l) (u : Tok) : Holds P w (addTx (hashStr w k) (.str k u) D) (k :: l) := by
  have tx := add_ok (k := k) u h.tx
  obtain ⟨es, ep, t⟩ := D
  unfold addTx tailTx at tx ⊢
  have keep : ∀ T : SetTable, (if T.plain = true then { T with plain := false } else T).place = T.place ∧ (if T.plain = true then { T with plain := false } else T).led = T.led := fun T => by
    by_cases q : T.plain = true <;> simp [q]
  dsimp only at tx ⊢
  generalize ht : (if (layNew t es (hashStr w k) (.str k u)).2.1.plain = true then { (layNew t es (hashStr w k) (.str k u)).2.1 with plain := false } else (layNew t es (hashStr w k) (.str k u)).2.1) = t2 at tx ⊢
  have same : t2.place = (layNew t es (hashStr w k) (.str k u)).2.1.place ∧ t2.led = (layNew t es (hashStr w k) (.str k u)).2.1.led := by
    rw [← ht]
    exact keep _
  by_cases full : (!(layNew t es (hashStr w k) (.str k u)).2.2.1 && t2.tooFull) = true
  · rw [if_pos full] at tx ⊢
    have txl : TxOk P w ((layNew t es (hashStr w k) (.str k u)).1, ep, t2) (k :: l) := by
      refine ⟨?_, ?_, ?_, ?_⟩
      · exact tx.el.perm (relayAll_perm _ _ _).symm
      · intro j
        rw [tx.mem j]
        constructor
        · rintro ⟨e, he, z⟩
          exact ⟨e, (relayAll_perm _ _ _).mem_iff.mp he, z⟩
        · rintro ⟨e, he, z⟩
          exact ⟨e, (relayAll_perm _ _ _).mem_iff.mpr he, z⟩
      · rw [← tx.sz]
        have := (relayAll_perm t2 (layNew t es (hashStr w k) (.str k u)).1 (SetTable.grown (layNew t es (hashStr w k) (.str k u)).1.size)).length_eq
        simpa using this.symm
      · have f := layNew_fits t es (hashStr w k) (.str k u)
        rw [← ht]
        by_cases q : (layNew t es (hashStr w k) (.str k u)).2.1.plain = true
        · rw [if_pos q]
          exact SetTable.fits_plain_off f
        · rw [if_neg q]
          exact f
    exact (h.laid ep same txl).relaid tx
  · rw [if_neg full] at tx ⊢
    exact h.laid _ same tx
theorem Holds.empty {b : Bool} (hb : w.params.followText "set-order" = true ∨ b = true) : Holds P w (#[], 0, .fresh 0 0 b) [] := by
  refine ⟨.nil rfl, ?_, .nil, .nil, hb⟩
  intro e he
  cases he
/-! ### adding -/
variable {A : Around} {E : Value → Shared → Prop} {s : Shared} {a : Addr}
/-- one that is there already -/
theorem add_old {Q : Bool → Shared → Prop} (ho : s.heap.get? a = some (sObj "set" D)) (h : TxOk P w D l) (mem : k ∈ l) (small : l.length < scanBound) (q : Q false s) : wpAny (model P w) A (setAddHashed a (.str k u) (hashStr w k)) Q E s := by
  obtain ⟨es, ep, t⟩ := D
  have isk := PySem.Froz.is_str (P := P) (w := w) k u
  have few : es.size < scanBound := by
    rw [show es.size = l.length from h.sz]
    exact small
  unfold setAddHashed setAddHashedIn
  apply wpAny_holding
  apply wpAny_bind
  apply wpAny_setState_of ho rfl h.fit
  have scan : byScan (Value.str k u) es = true := byScan_of rfl few h.el
  simp only [scan, if_true]
  unfold setAddByScan
  apply wpAny_bind
  apply wpAny_bind
  apply wpAny_rule
  apply wpAny_bind
  apply wpAny_setScan_of (knd := strKind P w) isk ho rfl h.fit h.el
  cases found : es.toList.findIdx? (fun e => (strKind P w).is k e.2) with
  | some j => exact wpAny_pure (wpAny_pure q)
  | none =>
    obtain ⟨e, he, z⟩ := (h.mem k).mp mem
    have no := List.findIdx?_eq_none_iff.mp found e he
    rw [z] at no
    cases no
/-- l with k in it -/
def ins (k : Str) (l : List Str) : List Str := if k ∈ l then l else k :: l
theorem mem_ins {j k : Str} {l : List Str} : j ∈ ins k l ↔ j = k ∨ j ∈ l := by
  unfold ins
  split
  · rename_i z
    constructor
    · exact Or.inr
    · rintro (rfl | y)
      · exact z
      · exact y
  · exact List.mem_cons
theorem nodup_ins {k : Str} {l : List Str} (h : l.Nodup) : (ins k l).Nodup := by
  unfold ins
  split
  · exact h
  · rename_i z
    exact List.nodup_cons.mpr ⟨z, h⟩
theorem length_ins (k : Str) (l : List Str) : (ins k l).length ≤ l.length + 1 := by
  unfold ins
  split <;> simp
/-- a holds l in the heap h -/
def SetS (P : Program) (w : World) (h : Heap) (a : Addr) (l : List Str) : Prop := ∃ D, h.get? a = some (sObj "set" D) ∧ Holds P w D l
theorem add_any {Q : Bool → Shared → Prop} (R : SetS P w s.heap a l) (small : l.length + 1 < scanBound) (q : ∀ b h, Heap.SameBut a s.heap h → SetS P w h a (ins k l) → Q b { s with heap := h }) :
    wpAny (model P w) A (setAddHashed a (.str k u) (hashStr w k)) Q E s := by
  obtain ⟨D, ho, hD⟩ := R
  by_cases mem : k ∈ l
  · exact add_old ho hD.tx mem (Nat.lt_of_succ_lt small) (q false s.heap (Heap.SameBut.refl a _) ⟨D, ho, by rw [ins, if_pos mem]; exact hD⟩)
  · apply add_x ho hD.tx mem small
    exact q true _ (Heap.SameBut.update _ a _) ⟨_, PySem.Froz.get_upd _ ho rfl, by rw [ins, if_neg mem]; exact hD.add u⟩
end
/-! ### a text's signs, one after another -/
def sgs (x : Str) : List Str := x.cps.toList.map fun c => ⟨#[c]⟩
def insAll (l : List Str) : List Str → List Str := List.foldl (fun m k => ins k m) l
theorem mem_insAll {j : Str} : ∀ {ks l : List Str}, j ∈ insAll l ks ↔ j ∈ ks ∨ j ∈ l
  | [], l => by simp [insAll]
  | k :: ks, l => by
    show j ∈ insAll (ins k l) ks ↔ _
    rw [mem_insAll, mem_ins, List.mem_cons, or_left_comm, or_assoc]
theorem nodup_insAll : ∀ {ks l : List Str}, l.Nodup → (insAll l ks).Nodup
  | [], _, h => h
  | k :: ks, l, h => nodup_insAll (ks := ks) (l := ins k l) (nodup_ins h)
theorem length_insAll : ∀ (ks l : List Str), (insAll l ks).length ≤ l.length + ks.length
  | [], l => Nat.le_refl _
  | k :: ks, l => by
    have h1 := length_insAll ks (ins k l)
    have h2 := length_ins k l
    show (insAll (ins k l) ks).length ≤ _
    rw [List.length_cons]
    omega
section
variable {P : Program} {w : World} {A : Around} {R : Result → Shared → Prop} {I a : Addr} {fp wr : List Addr} {G : Array GenState → Array GenState → Prop} {n : Nat} {Pv : Nat → Value → Prop} {St : Nat → Shared → Prop}
theorem loop (W : WalksS P w A.in1 I fp wr G n Pv St) (far : a ∉ fp) (xs : List Str) (len : xs.length = n) (small : n + 1 < scanBound) (val : ∀ i v, Pv i v → ∃ k u, xs[i]? = some k ∧ v = .str k u) (left : Nat) :
    ∀ (i : Nat) (s : Shared) (l : List Str), i + left = n → l.length ≤ i → St i s → SetS P w s.heap a l → (∀ s2, Moved (a :: wr) G s s2 → SetS P w s2.heap a (insAll l (xs.drop i)) → R (.ok (.ret .none)) s2) →
      codeAny (model P w) A (.builtin "set.update.loop" ⟨[.ref a, .ref I], []⟩) R s := by
  have nw : a ∉ wr := fun z => far (W.sub _ z)
  have step : ∀ {s s2 : Shared} {l : List Str}, Moved wr G s s2 → SetS P w s.heap a l → SetS P w s2.heap a l := fun m ⟨D, ho, hD⟩ => ⟨D, m.heap a _ nw ho, hD⟩
  have wide : ∀ b, b ∈ wr → b ∈ a :: wr := fun _ => List.mem_cons_of_mem _
  induction left with
  | zero =>
    intro i s l hi hl st S fin
    obtain rfl : i = n := hi
    apply codeAny_builtin PyProof.Rows.F.entry_set_update_loop
    rw [Around.under_plainId PyProof.Rows.F.plain_set_update_loop]
    apply wpAny_bind
    apply W.done s _ _ st
    intro s2 m
    apply wpAny_pure
    apply fin s2 (m.mono wide)
    rw [← len, List.drop_length]
    exact step m S
  | succ left ih =>
    intro i s l hi hl st S fin
    apply codeAny_builtin PyProof.Rows.F.entry_set_update_loop
    rw [Around.under_plainId PyProof.Rows.F.plain_set_update_loop]
    apply wpAny_bind
    apply W.item i s _ _ (by omega) st
    intro v s2 pv st2 m
    obtain ⟨k, u, at_, rfl⟩ := val i v pv
    show wpAny _ A.in1 (holding [Value.str k u] (setAdd a (.str k u)) >>= _) _ _ s2
    apply wpAny_bind
    apply wpAny_holding
    unfold setAdd
    apply wpAny_holding
    apply wpAny_bind
    apply (PySem.strKind P w).pyHash (PySem.Froz.is_str k u)
    have S1 := step m S
    apply add_any (s := { s2 with toks := s2.toks + 1 }) S1 (by omega)
    intro b h sb S2
    have old : ∀ c ∈ fp, ∀ o, s2.heap.get? c = some o → h.get? c = some o := fun c hc o e => (sb.2 c fun z => far (z ▸ hc)).trans e
    refine wpAny_pure ⟨plainId_quiet PyProof.Rows.F.plain_set_update_loop _, ih (i + 1) _ (ins k l) (by omega) ?_ (W.frame _ s2 _ _ st2 (Nat.le_succ _) old) S2 ?_⟩
    · have := length_ins k l
      omega
    · intro s3 m3 S3
      refine fin s3 (Moved.trans W.gtrans ((m.mono wide).then_heap (Nat.le_succ _) fun c o hc e => ?_) m3) ?_
      · exact (sb.2 c fun z => hc (z ▸ List.mem_cons_self)).trans e
      · have : xs.drop i = k :: xs.drop (i + 1) := by
          obtain ⟨lt, e⟩ := List.getElem?_eq_some_iff.mp at_
          rw [List.drop_eq_getElem_cons lt, e]
        rw [this]
        exact S3
end
/-! ### set(text) -/
section
variable {P : Program} {w : World} {A : Around} {E : Value → Shared → Prop} {s : Shared}
abbrev newSet (w : World) : Obj := { cls := .type "set", dict := none, data := .set #[] 0 (.fresh 0 0 (!w.params.followText "set-order")) }
theorem newSet_ok {h : Heap} {a : Addr} (e : h.get? a = some (newSet w)) : SetS P w h a [] := by
  refine ⟨(#[], 0, .fresh 0 0 (!w.params.followText "set-order")), e, .empty ?_⟩
  cases w.params.followText "set-order"
  · exact Or.inr rfl
  · exact Or.inl rfl
/-- what set(x) leaves: a set at the first free place, all else as it was -/
def Left (P : Program) (w : World) (x : Str) (s s2 : Shared) : Prop := ∃ h k, s2 = { s with heap := h, toks := k } ∧ SetS P w h s.heap.objs.size (insAll [] (sgs x)) ∧ ∀ b o, s.heap.get? b = some o → h.get? b = some o
theorem init_text {x : Str} {u : Tok} {Q : PySem.Fin → Shared → Prop} (calm : A.handled = none) (small : x.cps.size + 1 < scanBound) (go : ∀ s2, Left P w x s s2 → Q (.done (.ret .none)) s2) :
    wpAny (model P w) A (Builtin.«set.__init__» ⟨[.ref s.heap.objs.size, .str x u], []⟩) Q E { s with heap := s.heap.push (newSet w) } := by
  have sub1 := PySem.F.sub_str_set
  have sub2 := PySem.F.sub_str_frozenset
  have nd : (Value.type "str" == Value.type "dict") = false := by decide
  have top : (s.heap.push (newSet w)).get? s.heap.objs.size = some (newSet w) := Heap.get?_push_size _ rfl
  unfold Builtin.«set.__init__» noKeywords Builtin.Frozenset.updateFrom
  generalize hPI : pyIter = PI
  wp_walk
  subst hPI
  apply wpAny_pyIter_str
  intro o St walk st
  apply wpAny_bind
  apply wpAny_runValue
  have one : (s.heap.push (newSet w)).objs.size = s.heap.objs.size + 1 := Heap.size_push ..
  have far : s.heap.objs.size ∉ [(s.heap.push (newSet w)).objs.size] := by simp [one]
  apply loop ((walk _ (by simp [calm])).toS) far (sgs x) (by simp [sgs]) small ?val x.cps.size 0 _ [] (Nat.zero_add _) (Nat.le_refl _) st (newSet_ok (Heap.get?_push_of_some _ top)) ?fin
  case val =>
    rintro i v ⟨c, t, at_, rfl⟩
    exact ⟨⟨#[c]⟩, t, by simp [sgs, at_], rfl⟩
  case fin =>
    rintro ⟨h, g, d, k, os⟩ m S
    obtain rfl : g = s.gens := m.gens
    obtain rfl : d = s.drawn := m.drawn
    obtain rfl : os = s.os := m.os
    refine wpAny_pure (wpAny_pure (go _ ⟨h, k, rfl, S, fun b o e => ?_⟩))
    have lt := Heap.lt_size e
    apply m.heap b o _ (Heap.get?_push_of_some _ (Heap.get?_push_of_some _ e))
    rw [List.mem_cons, List.mem_singleton, one]
    have lt : b < s.heap.objs.size := lt
    rintro (z | z)
    · exact absurd lt (z ▸ Nat.lt_irrefl _)
    · exact absurd lt (z ▸ Nat.not_lt_of_le (Nat.le_succ _))
theorem call_set_text {x : Str} {u : Tok} {Q : Value → Shared → Prop} (calm : A.handled = none) (small : x.cps.size + 1 < scanBound) (go : ∀ s2, Left P w x s s2 → Q (.ref s.heap.objs.size) s2) :
    wpAny (model P w) A (call (.type "set") [.str x u]) Q E s := by
  have T := PySem.F.called_set
  obtain ⟨c, tl, hmro⟩ := T.mro
  have t1 := T.made
  have t2 := T.sub
  have t3 := T.notType
  have t4 := T.canCreate
  have t5 := PySem.F.typeCall_set_1 (.str x u)
  apply wpAny_call
  apply codeAny_of_tree
  have quiet := Code.quiet_builtin (id := "type.__call__") ⟨[.type "set", .str x u], []⟩ (by decide +kernel)
  refine wpAny_pure ⟨quiet, ?_⟩
  apply codeAny_builtin PySem.F.entry_type_call
  rw [Around.under_plain (weight_type_call_type "set" [.str x u] []) rfl]
  repeat (any_goals (first | assumption | wp_step))
  apply codeAny_mono (code_set_led1 (.str x u) (E := E) (Q₁ := fun v s1 => v = .ref s.heap.objs.size ∧ s1 = { s with heap := s.heap.push (newSet w) }) ⟨rfl, rfl⟩)
  intro r s1 made
  match r, made with
  | .error e, z => exact z
  | .ok .next, z => exact absurd z id
  | .ok .brk, z => exact absurd z id
  | .ok .cont, z => exact absurd z id
  | .ok (.ret v), ⟨e1, e2⟩ =>
    subst e1 e2
    have isSet : Shared.TypeIs { s with heap := s.heap.push (newSet w) } (.ref s.heap.objs.size) "set" := ⟨newSet w, Heap.get?_push_size _ rfl, rfl⟩
    have i1 := T.init.lookup
    have i2 := T.init.bind (.ref s.heap.objs.size)
    repeat (any_goals (first | assumption | wp_step))
    apply codeAny_mono (codeAny_call_builtin (R := wants (fun v s2 => v = .none ∧ Left P w x s s2) E) T.init.plain PySem.F.entry_set_init (check_set_init_1 isSet (init_text (by simp [calm]) small fun s2 z => ⟨rfl, z⟩)))
    intro r2 s2 done
    match r2, done with
    | .error e, z => exact z
    | .ok .next, z => exact absurd z id
    | .ok .brk, z => exact absurd z id
    | .ok .cont, z => exact absurd z id
    | .ok (.ret v), ⟨e1, z⟩ =>
      subst e1
      repeat (any_goals (first | assumption | wp_step))
      exact go s2 z
end
end ST

end sec_ST1
section sec_ST2
set_option maxRecDepth 100000
set_option maxHeartbeats 5000000
namespace ST
open PySem PySem.Spec PyProof.Rows L2

/-! ### the signs of a text, each once, ascending -/
def insN (c : Nat) : List Nat → List Nat
  | [] => [c]
  | d :: r => if c < d then c :: d :: r else if c = d then d :: r else d :: insN c r
def setN : List Nat → List Nat
  | [] => []
  | c :: r => insN c (setN r)
abbrev Up (l : List Nat) : Prop := l.Pairwise (· < ·)
theorem mem_insN {c x : Nat} : ∀ {l : List Nat}, x ∈ insN c l ↔ x = c ∨ x ∈ l
  | [] => by simp [insN]
  | d :: r => by
    unfold insN
    split
    · simp
    · split
      · rename_i h
        subst h
        simp
      · rw [List.mem_cons, mem_insN, List.mem_cons]
        constructor
        · rintro (h | h | h) <;> simp [h]
        · rintro (h | h | h) <;> simp [h]
theorem up_insN {c : Nat} : ∀ {l : List Nat}, Up l → Up (insN c l)
  | [], _ => by simp [insN]
  | d :: r, h => by
    obtain ⟨above, up⟩ := List.pairwise_cons.mp h
    unfold insN
    split
    · rename_i hc
      refine List.pairwise_cons.mpr ⟨fun x hx => ?_, h⟩
      rcases List.mem_cons.mp hx with rfl | hx
      · exact hc
      · exact Nat.lt_trans hc (above x hx)
    · split
      · exact h
      · refine List.pairwise_cons.mpr ⟨fun x hx => ?_, up_insN up⟩
        rcases mem_insN.mp hx with rfl | hx
        · omega
        · exact above x hx
theorem mem_setN {x : Nat} : ∀ {l : List Nat}, x ∈ setN l ↔ x ∈ l
  | [] => Iff.rfl
  | c :: r => by
    show x ∈ insN c (setN r) ↔ _
    rw [mem_insN, mem_setN, List.mem_cons]
theorem up_setN : ∀ l : List Nat, Up (setN l)
  | [] => List.Pairwise.nil
  | c :: r => up_insN (up_setN r)
theorem up_eq : ∀ {l m : List Nat}, Up l → Up m → (∀ x, x ∈ l ↔ x ∈ m) → l = m
  | [], [], _, _, _ => rfl
  | [], y :: m, _, _, h => by
    have := (h y).mpr List.mem_cons_self
    cases this
  | x :: l, [], _, _, h => by
    have := (h x).mp List.mem_cons_self
    cases this
  | x :: l, y :: m, hl, hm, h => by
    obtain ⟨l1, l2⟩ := List.pairwise_cons.mp hl
    obtain ⟨m1, m2⟩ := List.pairwise_cons.mp hm
    have e : x = y := by
      rcases List.mem_cons.mp ((h x).mp List.mem_cons_self) with z | z
      · exact z
      · rcases List.mem_cons.mp ((h y).mpr List.mem_cons_self) with z' | z'
        · exact z'.symm
        · have a := m1 x z
          have b := l1 y z'
          omega
    subst e
    rw [up_eq l2 m2 fun z => ?_]
    constructor
    · intro hz
      rcases List.mem_cons.mp ((h z).mp (List.mem_cons_of_mem _ hz)) with q | q
      · have := l1 z hz
        omega
      · exact q
    · intro hz
      rcases List.mem_cons.mp ((h z).mpr (List.mem_cons_of_mem _ hz)) with q | q
      · have := m1 z hz
        omega
      · exact q
def sg1 (c : Nat) : Str := ⟨#[c]⟩
theorem sg1_inj {a b : Nat} (h : sg1 a = sg1 b) : a = b := by
  have q : [a] = [b] := congrArg (fun y : Str => y.cps.toList) h
  exact (List.cons.inj q).1
theorem sgs_eq (x : Str) : sgs x = x.cps.toList.map sg1 := rfl
/-- the texts of sorted(set(x)) -/
def sset (x : Str) : List Str := (setN x.cps.toList).map sg1
theorem sorted_pw : ∀ {ns : List Nat}, sortedS (ns.map sg1) = true → ns.Nodup → Up ns
  | [], _, _ => List.Pairwise.nil
  | [a], _, _ => by simp
  | a :: b :: r, h, nd => by
    have h' : (!ltCps (sg1 b).cps.toList (sg1 a).cps.toList && risingS (sg1 b) (r.map sg1)) = true := h
    rw [Bool.and_eq_true] at h'
    have nd' := List.nodup_cons.mp nd
    have ih := sorted_pw (ns := b :: r) h'.2 nd'.2
    have hab : a < b := by
      have q : a ≠ b := fun z => nd'.1 (by rw [z]; exact List.mem_cons_self)
      have q2 := h'.1
      simp [sg1, ltCps] at q2
      omega
    refine List.pairwise_cons.mpr ⟨fun x hx => ?_, ih⟩
    rcases List.mem_cons.mp hx with rfl | hx
    · exact hab
    · exact Nat.lt_trans hab ((List.pairwise_cons.mp ih).1 x hx)
theorem sset_of {x : Str} {ys : List Str} (hs : sortedS ys = true) (nd : ys.Nodup) (hm : ∀ k, k ∈ ys ↔ k ∈ sgs x) : ys = sset x := by
  obtain ⟨ns, rfl⟩ : ∃ ns : List Nat, ys = ns.map sg1 := by
    have : ∀ zs : List Str, (∀ k ∈ zs, k ∈ sgs x) → ∃ ns : List Nat, zs = ns.map sg1 := by
      intro zs
      induction zs with
      | nil => exact fun _ => ⟨[], rfl⟩
      | cons z zs ih =>
        intro h
        obtain ⟨ns, e⟩ := ih fun k hk => h k (List.mem_cons_of_mem _ hk)
        obtain ⟨c, _, e2⟩ := List.mem_map.mp (h z List.mem_cons_self)
        exact ⟨c :: ns, by rw [List.map_cons, e, ← e2]; rfl⟩
    exact this ys fun k hk => (hm k).mp hk
  have nd' : ns.Nodup := by
    refine List.Pairwise.of_map sg1 (fun a b hne e => hne (congrArg sg1 e)) nd
  unfold sset
  rw [up_eq (sorted_pw hs nd') (up_setN x.cps.toList) fun c => ?_]
  rw [mem_setN]
  have q := hm (sg1 c)
  rw [sgs_eq, List.mem_map, List.mem_map] at q
  constructor
  · intro h
    obtain ⟨a, ha, e⟩ := q.mp ⟨c, h, rfl⟩
    rw [← sg1_inj e]
    exact ha
  · intro h
    obtain ⟨a, ha, e⟩ := q.mpr ⟨c, h, rfl⟩
    rw [← sg1_inj e]
    exact ha

/-! ### sorted(a set of texts) -/
section
variable {P : Program} {w : World} {A : Around} {E : Value → Shared → Prop} {s : Shared} {a : Addr}
theorem strs_of : ∀ (vs : List Value), (∀ v ∈ vs, ∃ k u, v = Value.str k u) → StrsAre vs (vs.map nameOf)
  | [], _ => .nil
  | v :: vs, h => by
    have rest := strs_of vs fun z hz => h z (List.mem_cons_of_mem _ hz)
    obtain ⟨k, u, e⟩ := h v (List.mem_cons_self ..)
    subst e
    exact .cons k u rest
/-- what sorted leaves: a new list of the texts ys -/
structure Sorted (s s2 : Shared) (p : Addr) (ys : List Str) : Prop where
  old : ∀ b o, s.heap.get? b = some o → s2.heap.get? b = some o
  gens : s2.gens = s.gens
  os : s2.os = s.os
  new : s.heap.objs.size ≤ p
  lst : ∃ (out : Array Value) (c : Nat), s2.heap.get? p = some (seqObj "list" out c) ∧ StrsAre out.toList ys
  up : sortedS ys = true
theorem sorted_set {l : List Str} {Q : Value → Shared → Prop} (R : SetS P w s.heap a l) (small : l.length < scanBound) (calm : A.handled = none) (go : ∀ s2 p ys, Sorted s s2 p ys → ys.Perm l → Q (.ref p) s2) :
    wpAny (model P w) A (call (.builtin "sorted") [.ref a]) Q E s := by
  obtain ⟨⟨es, ep, t⟩, ho, hD⟩ := R
  have n : es.size = l.length := hD.tx.sz
  have line : l.length ≤ sizeLine := by
    rw [sizeLine_eq]
    unfold scanBound at small
    omega
  apply Calls.call_function_entry kind_sorted plain_sorted entry_sorted (args_sorted1 _)
  unfold Builtin.«sorted»
  apply wpAny_bind (m := checkCount "sorted" 1 1 _)
  apply wpAny_pure
  apply wpAny_bind
  apply collect_set (A := A.in1) calm (es := es) (ep := ep) (t := t) ⟨_, ho, rfl, rfl⟩ hD.tx.fit (by rw [n]; exact small) hD.ris hD.led
  intro s1 vs kept more gens os pm
  have vl : vs.length = l.length := by
    rw [← n, pm.length_eq]
    simp
  have isS := strs_of vs fun v hv => by
    obtain ⟨e, he, rfl⟩ := List.mem_map.mp (pm.mem_iff.mp hv)
    exact hD.str e he
  have vp : (vs.map nameOf).Perm l := by
    have z := pm.map nameOf
    rw [List.map_map] at z
    exact z.trans hD.perm
  apply wpAny_bind
  refine wpAny_newList ?_ (by rw [vl]; exact line)
  have top : (s1.heap.push (seqObj "list" vs.toArray 0)).get? s1.heap.objs.size = some (seqObj "list" vs.toArray 0) := Heap.get?_push_size _ (by rfl)
  apply wpAny_bind
  apply wpAny_holding
  refine wpAny_call_entry slot_list_sort ⟨_, top, rfl⟩ entry_list_sort ?_ (args_list_sort _)
  refine list_sort_treeKAny strKind_oneLt top isS.keysOf (fun v1 v2 rest e => keyKind_strs (by rw [← e]; exact isS)) (by rw [vl]; exact line) fun st hp hs => ⟨_, rfl, ?_⟩
  obtain ⟨ys, y1, y2, y3⟩ := sorted_out_str isS hp hs
  obtain ⟨c, at_⟩ := sortedHeap_at (vs := vs) (out := (arrOf st).map (·.2)) top
  refine wpAny_pure ⟨_, rfl, go _ s1.heap.objs.size ys ⟨fun b u e => ?_, gens, os, more, ⟨_, c, at_, y1⟩, y3⟩ (y2.trans vp)⟩
  have e1 := kept b u e
  have lt := Heap.lt_size e1
  refine (sortedHeap_old (Nat.ne_of_lt lt) ?_).trans (Heap.get?_push_of_some _ e1)
  rw [size_push']
  exact Nat.lt_succ_of_lt lt
end

/-! ### sorted(set(e)) -/
section
variable {X : Cx}
theorem bt_sorted : bootBuiltins "sorted" = some (.builtin "sorted") := by decide +kernel
def tSS (te : TE) : TE := fun σ H Q => te σ H fun v H1 => ∃ x, v = V.str x ∧ x.cps.size + 1 < scanBound ∧ ∀ p, H1 p = none → Q (.ref p) (upd H1 p (.lst ((sset x).map V.str)))
theorem pe_sortedSet {a : Expr} {ta : TE} {p p2 q pos : Pos} (hc : X.calm = true) (hg : Gl X "sorted") (hm : X.mg "sorted" = none) (hg2 : Gl X "set") (hm2 : X.mg "set" = none) (ha : PE X a ta)
    (na : starEach [a] X.env = (false, eval a X.env) :: starEach [] X.env := by rfl) : PE X (.Call (.Name "sorted" p) [.Call (.Name "set" p2) [a] [] q] [] pos) (tSS ta) where
  run := by
    intro pins s σ H Q I pre
    refine Call_ (ld_blt I hg hm bt_sorted (PyProof.Rows.callWith_builtin1 (PyProof.Rows.args_cons ?_ rfl) rfl rfl))
    refine Call_ (ld_blt I hg2 hm2 PyProof.Rows.boot_set (PyProof.Rows.callWith_type1 (PyProof.Rows.args_cons (thn (ha.run pins s σ H _ I pre) ?_) na) na rfl))
    rintro v s1 ⟨x, H1, I1, rx, x, rfl, small, post⟩
    obtain ⟨u, rfl⟩ := rx
    refine PyProof.Rows.args_nil (call_set_text (I1.ok.hd hc) small ?_)
    rintro _ ⟨h, k, rfl, S, kept⟩
    refine PyProof.Rows.args_nil ?_
    have I2 := I1.kept (t' := k) kept
    have len := length_insAll (sgs x) []
    have few : (insAll [] (sgs x)).length < scanBound := by
      have : (sgs x).length = x.cps.size := by simp [sgs]
      simp only [List.length_nil] at len
      omega
    generalize hs2 : ({ s1 with heap := h, toks := k } : Shared) = s2 at I2
    have S2 : SetS X.prog X.w s2.heap s1.heap.objs.size (insAll [] (sgs x)) := by
      rw [← hs2]
      exact S
    apply sorted_set S2 few (I2.ok.hd hc)
    intro s3 p ys Z pm
    have nd : ys.Nodup := pm.nodup_iff.mpr (nodup_insAll List.nodup_nil)
    have ey : ys = sset x := sset_of Z.up nd fun j => by
      rw [pm.mem_iff, mem_insAll]
      simp
    obtain ⟨out, c, at_, txt⟩ := Z.lst
    have free := I2.hok.fresh Z.new
    have line : ((sset x).map V.str).length ≤ sizeLine := by
      rw [List.length_map, ← ey, pm.length_eq, sizeLine_eq]
      unfold scanBound at few
      omega
    rw [ey] at txt
    have J : Inv X pins σ (upd H1 p (.lst ((sset x).map V.str))) s3 := I2.call' (ch := []) Z.os (Un.laid Z.old Z.new free) (I2.hok.laid Z.old Z.new ⟨line, out.toList, c, vals_of_strs txt, at_⟩) (by rw [Z.gens]; exact I2.bare) (fun _ z => nomatch z)
    exact ⟨.ref p, _, J, rfl, post p free⟩
end
end ST

end sec_ST2
section sec_SK1
set_option maxRecDepth 100000
set_option maxHeartbeats 5000000
/-! SK1: sorted(texts, key=lambda one: (len(one), one)), sorted(texts, key=len). A lambda is made (LamX.lam_make2 is the library's; here all but the one table is kept). -/
namespace SK
open PySem PySem.Spec PyProof.Rows L2 LamX

section
variable {H : Hp} {T : List (Addr × Str)} {P c : Addr} {q : Str} {ps more : Array Value}
/-- H with a longer table at P and a code object at c -/
def grown (H : Hp) (P : Addr) (ps : Array Value) (c : Addr) (q : Str) : Hp := upd (upd H P (.tbl ps)) c (CodeO c q)
theorem grown_old {b : Addr} {o : HO} (free : H c = none) (e : H b = some o) (n : b ≠ P) : grown H P ps c q b = some o :=
  (upd_ne (ne_of_none e free)).trans ((upd_ne n).trans e)
theorem grown_code {b : Addr} {r : Str} (tab : H P = some (.tbl ps)) (free : H c = none) (e : H b = some (CodeO b r)) : grown H P (ps ++ more) c q b = some (CodeO b r) := by
  apply grown_old free e
  rintro rfl
  exact codeO_ne ps (Option.some.inj (e.symm.trans tab))
theorem grown_tabs (one : ∀ p ∈ T, p.1 = P → p.2 = q) (tab : H P = some (.tbl ps)) (free : H c = none) (all : Tabs T H) (fit : TriplesOk (ps ++ more).toList) (new : ∀ pos cv, codeAmong pos (ps ++ more).toList = some cv → codeAmong pos ps.toList = some cv ∨ cv = .ref c) :
    Tabs T (grown H P (ps ++ more) c q) := by
  intro p hp
  obtain ⟨qs, t1, t2, t3⟩ := all p hp
  by_cases here : p.1 = P
  · obtain rfl : qs = ps := by
      rw [here, tab] at t1
      injection t1 with t1
      injection t1 with t1
      exact t1.symm
    refine ⟨qs ++ more, ?_, fit, ?_⟩
    · rw [here]
      exact (upd_ne (ne_of_none tab free)).trans upd_same
    · intro pos cv found
      rcases new pos cv found with old | rfl
      · obtain ⟨d, rfl, at_⟩ := t3 pos cv old
        exact ⟨d, rfl, grown_code tab free at_⟩
      · exact ⟨c, rfl, by rw [one p hp here]; exact upd_same⟩
  · refine ⟨qs, grown_old free t1 here, t2, ?_⟩
    intro pos cv found
    obtain ⟨d, rfl, at_⟩ := t3 pos cv found
    exact ⟨d, rfl, grown_code tab free at_⟩
end
section
variable {X : Cx} {pins : List (Addr × Obj)} {σ : L2.St}
/-- the lambda as an object -/
abbrev lamO (X : Cx) (params : Arguments) (body : Expr) (scope : Scope) (pm : Value) (c : Addr) (ctv : Value) : Obj := PySem.W.kla_obj "<lambda>" (X.env.qual ++ "<lambda>") params body scope (cloFrom X.env.cells scope.names []) pm c ctv
theorem lam_make3 {H : Hp} {s : Shared} {T : List (Addr × Str)} {c P : Addr} {params : Arguments} {body : Expr} {scope : Scope} {pos : Pos} {E : Value → Shared → Prop} {Q : Value → Shared → Prop} (I : Inv X pins σ H s) (TB : TabB X.base X.mg c P) (hcode : X.env.code = .ref c)
    (hm : (P, X.env.qual ++ "<lambda>") ∈ T) (one : ∀ p ∈ T, p.1 = P → p.2 = X.env.qual ++ "<lambda>") (all : Tabs T H) (nodef : defaultsOf params X.env = ([], [])) (free : ∀ y ∈ scope.names, y.2 = .free → ∃ c, X.env.cells.lookup y.1 = some c)
    (go : ∀ (f c2 : Addr) (pm ctv : Value) (H1 : Hp) (s1 : Shared), Inv X pins σ H1 s1 → (∀ b o, H b = some o → b ≠ P → H1 b = some o) → Tabs T H1 → s1.heap.get? f = some (lamO X params body scope pm c2 ctv) → H1 c2 = some (CodeO c2 (X.env.qual ++ "<lambda>")) → Q (.ref f) s1) :
    wpAny (model X.prog X.w) X.A (eval (.Lambda params body scope pos) X.env) Q E s := by
  obtain ⟨ps, tab, fit, known⟩ := all _ hm
  have glob := I.mod.glob.keeps I.bk
  have hd := TB.code.keeps I.bk
  have bm := TB.bm.keeps I.bk
  apply PySem.W.kla_eval nodef
  match found : codeAmong pos ps.toList with
  | some cv =>
    obtain ⟨c2, rfl, at_⟩ := known pos cv found
    apply PySem.W.kla_makeFunctionHit (mg := X.mg) (c := c) (P := P) (ps := ps) (closure_ok free) I.ok.glob glob hcode hd (I.hok P _ tab) fit found bm
    intro ctv h k old _
    exact go h.objs.size c2 _ ctv H _ (I.kept (t' := k) fun b o e => Heap.get?_push_of_some _ (old b o e)) (fun _ _ e _ => e) all (Heap.get?_push_size _ rfl) at_
  | none =>
    apply PySem.W.kla_makeFunction (mg := X.mg) (c := c) (P := P) (ps := ps) (closure_ok free) I.ok.glob glob hcode hd (I.hok P _ tab) fit found TB.gP bm
    intro c2 ctv h k old new _ rec_ tab2
    obtain ⟨c3, oc, vs, t, e3, at_, dat, nm⟩ := rec_
    injection e3 with e3
    subst e3
    have none2 := I.hok.fresh new
    have I2 := inv_table (t' := k) (h' := h.push (lamO X params body scope ((X.mg "__name__").getD .none) c2 ctv)) (q := X.env.qual ++ "<lambda>") I tab (fun b o n e => Heap.get?_push_of_some _ (old b o n e)) (Heap.get?_push_of_some _ tab2) new ⟨oc, vs, t, Heap.get?_push_of_some _ at_, dat, nm⟩
    have split : (ps ++ #[rawInt pos.line, rawInt pos.col, .ref c2]).toList = ps.toList ++ [rawInt pos.line, rawInt pos.col, .ref c2] := by rw [Array.toList_append]
    refine go h.objs.size c2 _ ctv _ _ I2 (fun b o e n => grown_old none2 e n) (grown_tabs one tab none2 all ?_ ?_) (Heap.get?_push_size _ rfl) upd_same
    · rw [split]
      exact PySem.TriplesOk_snoc _ _ _ _ fit
    · intro p cv f2
      rw [split] at f2
      exact among_app _ fit f2
end

/-! ### the key -/
section
variable {prog : Program} {w : World} {A : Around} {s : Shared} {mg mb : Str → Option Value}
abbrev kyLen (x : Str) : PyData := .tuple [.int x.length, .str x]
/-- len(y), y -/
theorem ev_pair {q y : Str} {scope : Scope} {L f : Addr} {cd : Value} {cl : List (Str × Addr)} {x : Str} {u : Tok} {p1 p2 p3 p4 p5 : Pos} {i1 : Nat} {m : Str → Option Value} {Q : Value → Shared → Prop} {E : Value → Shared → Prop}
    (hk : scope.kind = .function) (hy : scope.names.lookup y = some .local) (hl : scope.names.lookup ("len" : Str) = some .globalImplicit) (hg : s.heap.Ns mainGlobals mg) (hm : mg "len" = none) (hb : s.heap.Ns builtinsNs mb) (hmb : mb "len" = some (.builtin "len"))
    (hn : s.heap.Ns L m) (hmy : m y = some (.str x u)) (hx : x.length ≤ sizeLine) (hd : (y == ("__debug__" : Str)) = false)
    (h : ∀ tk t, Q (.ref s.heap.objs.size) { s with heap := s.heap.push (seqObj "tuple" #[.int x.length t, .str x u] 0), toks := tk }) :
    wpAny (model prog w) A (eval (.Tuple [.Call (.Name "len" p1) [.Name y p2] [] p3, .Name y p4] i1 p5) (PySem.W.envX q scope L f cd cl)) Q E s := by
  have ldy : ∀ {p : Pos} {Q : Value → Shared → Prop} {s' : Shared}, s'.heap = s.heap → Q (.str x u) s' → wpAny (model prog w) A (eval (.Name y p) (PySem.W.envX q scope L f cd cl)) Q E s' := fun {p Q s'} e h =>
    wpAny_Name (wpAny_loadName_local hk hy (by rw [e]; exact hn) hmy h) hd
  refine wpAny_Tuple_spliced (Calls.spliced_cons ?_)
  refine Call_ (Calls.Name_function_global hk hl (Calls.loadGlobal_builtin hg hm hb hmb ?_) (by decide))
  refine PyProof.Rows.callWith_builtin1 (PyProof.Rows.args_cons (ldy rfl (PyProof.Rows.args_nil ?_)) rfl) rfl rfl
  have h63 := line63
  refine len_str (by omega) ?_
  refine Calls.spliced_cons (ldy rfl (Calls.spliced_nil ⟨?_, ?_⟩))
  · show 2 ≤ sizeLine
    decide
  · exact h _ _
end
end SK

end sec_SK1
section sec_SK2
set_option maxRecDepth 100000
set_option maxHeartbeats 5000000
namespace SK
open PySem PySem.Spec PyProof.Rows L2 LamX PySem.W

theorem reads_pair {h : Heap} {a : Addr} {x : Str} {n : Int} {t u : Tok} (ho : h.get? a = some (seqObj "tuple" #[.int n t, .str x u] 0)) : Reads h (.ref a) (.tuple [.int n, .str x]) [] :=
  Reads.tuple (vs := #[.int n t, .str x u]) ho rfl rfl (.cons (as := []) (bs := []) (.int n t) (.cons (as := []) (bs := []) (.str x u) .nil))
section
variable {prog : Program} {w : World} {A : Around} {s : Shared} {mg mb : Str → Option Value}
theorem lam_key {q y : Str} {scope : Scope} {f c' : Addr} {cl : List (Str × Addr)} {pm ctv : Value} {params : Arguments} {x : Str} {u : Tok} {p1 p2 p3 p4 p5 : Pos} {i1 : Nat}
    (hf : s.heap.get? f = some (kla_obj "<lambda>" q params (.Tuple [.Call (.Name "len" p1) [.Name y p2] [] p3, .Name y p4] i1 p5) scope cl pm c' ctv)) (hcd : s.heap.CodeRec (.ref c') q) (hroom : A.depth < recursionLimit) (hlim : s.heap.NoLimit)
    (hbind : ∀ v, bindArgs (kla_fn "<lambda>" q params (.Tuple [.Call (.Name "len" p1) [.Name y p2] [] p3, .Name y p4] i1 p5) scope cl pm (.ref c') ctv) ⟨[v], []⟩ = pure [(y, v)])
    (hk : scope.kind = .function) (hco : scope.isCoroutine = false) (hgen : scope.isGenerator = false) (hcell : ∀ x ∈ scope.names, x.2 ≠ .cell)
    (hy : scope.names.lookup y = some .local) (hl : scope.names.lookup ("len" : Str) = some .globalImplicit) (hg : s.heap.Ns mainGlobals mg) (hm : mg "len" = none) (hb : s.heap.Ns builtinsNs mb) (hmb : mb "len" = some (.builtin "len"))
    (hx : x.length ≤ sizeLine) (hd : (y == ("__debug__" : Str)) = false) :
    wpAny (model prog w) A (call (.ref f) [.str x u]) (KeyPure (kyLen x) s) (fun _ _ => False) s := by
  refine wpAny_call ?_
  refine kla_callFunE hroom hf rfl hco hgen rfl hcd ?_
  rw [hbind]
  refine wpAny_pure (wpAny_newFunctionEnv hcell (fun z hz => ?_) (fun h₁ hns hsb => ⟨hlim.fresh _ hsb, ?_⟩) hk)
  · rw [List.mem_singleton.mp hz]
    exact hy
  have kp : ∀ b o, s.heap.get? b = some o → h₁.get? b = some o := by
    intro b o e
    apply hsb.extBut b o (Nat.ne_of_lt (Heap.lt_size e))
    exact Heap.get?_push_of_some _ e
  show codeAny _ _ (.expr _ (envX q scope s.heap.objs.size f (.ref c') cl)) _ _
  refine kla_codeExpr ?_
  refine ev_pair (u := u) (s := { s with heap := h₁, toks := s.toks + [(y, Value.str x u)].length }) hk hy hl (hg.keeps kp) hm (hb.keeps kp) hmb hns ?_ hx hd fun tk t => ?_
  · show List.lookup y [(y, Value.str x u)] = _
    rw [List.lookup_cons, beq_self_eq_true]
  · refine ⟨_, _, rfl, fun b o e => Heap.get?_push_of_some _ (kp b o e), ?_⟩
    exact reads_pair (Heap.get?_push_size _ rfl)
end
/-! ### the rules -/
section
variable {X : Cx}
theorem bt_sorted : bootBuiltins "sorted" = some (.builtin "sorted") := by decide +kernel
theorem bt_len : bootBuiltins "len" = some (.builtin "len") := by decide +kernel
/-- texts, by their lengths first -/
def byLen (xs : List Str) : List Str := xs.mergeSort (dataLe false kyLen)
/-- texts, by their lengths alone -/
def byLen1 (xs : List Str) : List Str := xs.mergeSort (dataLe false fun x => .int x.length)
def IsS (v : Value) (x : Str) : Prop := ∃ u, v = .str x u
theorem each_vals : ∀ {xs : List Str} {us : List Value}, Vals (xs.map V.str) us → EachIs IsS us xs
  | [], _, h => by
    cases h
    exact .nil
  | x :: xs, _, h => by
    cases h with
    | cons r t =>
      obtain ⟨u, rfl⟩ := r
      exact .cons ⟨u, rfl⟩ (each_vals t)
theorem vals_each : ∀ {xs : List Str} {us : List Value}, EachIs IsS us xs → Vals (xs.map V.str) us
  | _, _, .nil => .nil
  | _, _, .cons ⟨u, e⟩ t => by
    subst e
    exact .cons ⟨u, rfl⟩ (vals_each t)
/-- sorted(e, key=lambda y: (len(y), y)); T: the tables, P the one of this def -/
def tSK (K : PySem.W.Frag) (T : List (Addr × Str)) (P : Addr) (te : TE) : TE := fun σ H Q => te σ H fun v H1 => ∃ l xs, v = V.ref l ∧ SqL K H1 l (xs.map V.str) ∧ (∀ x ∈ xs, x.length ≤ sizeLine) ∧ Tabs T H1 ∧ l ≠ P ∧
  ∀ H2 p, Tabs T H2 → (∀ b o, H1 b = some o → b ≠ P → H2 b = some o) → H2 p = none → Q (.ref p) (upd H2 p (.lst ((byLen xs).map V.str)))
theorem pe_sortLam {T : List (Addr × Str)} {c P : Addr} {e : Expr} {te : TE} {y : Str} {params : Arguments} {scope : Scope} {k : Nat} {p pos lpos kpos p1 p2 p3 p4 p5 : Pos} {i1 : Nat} (hg : Gl X "sorted") (hm : X.mg "sorted" = none) (hml : X.mg "len" = none) (hr : Room (k + 4) X.A)
    (TB : TabB X.base X.mg c P) (hcode : X.env.code = .ref c) (hmT : (P, X.env.qual ++ "<lambda>") ∈ T) (hu : ∀ p ∈ T, p.1 = P → p.2 = X.env.qual ++ "<lambda>") (he : PE X e te)
    (hdef : defaultsOf params X.env = ([], [])) (hfree : ∀ z ∈ scope.names, z.2 ≠ .free)
    (hbind : ∀ cl pm cd ctv v, bindArgs (kla_fn "<lambda>" (X.env.qual ++ "<lambda>") params (.Tuple [.Call (.Name "len" p1) [.Name y p2] [] p3, .Name y p4] i1 p5) scope cl pm cd ctv) ⟨[v], []⟩ = pure [(y, v)])
    (hk : scope.kind = .function) (hco : scope.isCoroutine = false) (hgen : scope.isGenerator = false) (hcell : ∀ x ∈ scope.names, x.2 ≠ .cell)
    (hy : scope.names.lookup y = some .local) (hl : scope.names.lookup ("len" : Str) = some .globalImplicit) (hd : (y == ("__debug__" : Str)) = false)
    (hs : starEach [e] X.env = (false, eval e X.env) :: starEach [] X.env := by rfl) :
    PE X (.Call (.Name "sorted" p) [e] [⟨some "key", .Lambda params (.Tuple [.Call (.Name "len" p1) [.Name y p2] [] p3, .Name y p4] i1 p5) scope lpos, kpos⟩] pos) (tSK X.K T P te) := by
  refine ⟨fun pins s σ H Q I h => ?_⟩
  refine wpAny_Call_Name_kw (ld_blt I hg hm bt_sorted ?_)
  have he' : backTo pos (starEach [e] X.env) = (false, eval e X.env) :: backTo pos (starEach [] X.env) := by rw [hs]; rfl
  refine PyProof.Rows.callWith_kw ?_ he' (by rw [he']; rfl) rfl rfl
  rw [he']
  refine Calls.spliced_cons (thn (he.run pins s σ H _ I h) fun u s1 ⟨v, H1, I1, r1, q1⟩ => Calls.spliced_nil ?_)
  obtain ⟨l, xs, rfl, hq, hxs, hT, hlP, q⟩ := q1
  cases r1
  show wpAny _ _ (evalAll ((do let v ← eval _ X.env; standAt pos; pure v) :: [])) _ _ s1
  refine wpAny_evalAll_cons (wpAny_bind (lam_make3 I1 TB hcode hmT hu hT hdef (fun z hz e => absurd e (hfree z hz)) fun f c' pm ctv H2 s2 I2 kE hT2 hf hco' => wpAny_bind (wpAny_standAt (wpAny_pure (wpAny_evalAll_nil ?_)))))
  have hq2 : SqL X.K H2 l (xs.map V.str) := by
    rcases hq with (z | ⟨o, z⟩) | z
    · exact .inl (.inl (kE _ _ z hlP))
    · exact .inl (.inr ⟨o, kE _ _ z hlP⟩)
    · exact .inr z
  obtain ⟨its, rv, pl, hz⟩ := I2.list hq2
  have ez := each_vals rv
  have hlen : xs.length ≤ sizeLine := by rw [List.length_map] at hz; exact hz
  obtain ⟨⟨oc, cvs, ct, hoc, hdc, hvc⟩, _, _⟩ := I2.hok c' _ hco'
  obtain ⟨mb, hb1, hb2⟩ := I2.mod.blt
  have hun := hr.units
  refine sorted_key_data (b := false) kyLen pl.isList ez (AllAlike.of fun _ _ => by simp [alike, alikeAll]) (Sortable.tuples fun _ => ⟨_, _, rfl⟩) hlen (fun x _ => ?_) (ksk_s1 _ _) (fun _ => ksk_l1 _ _) (fun _ => ksk_t1 _ _) (fun v x ⟨u, e⟩ hx h tk kp => ?_) fun out c0 h' tk kp hn hD hol eo => ?_
  · have hd : (kyLen x).depth = 1 := by simp [PyData.depth, PyData.depthAll]
    omega
  · subst e
    have dp := hr.dp
    refine lam_key (s := { s2 with heap := h, toks := tk }) (mg := X.mg) (mb := mb) (kp _ _ hf) ⟨c', oc, cvs, ct, rfl, kp _ _ hoc, hdc, hvc⟩ ?_ ((I2.nolimit).keeps kp) (fun v => hbind _ _ _ _ v) hk hco hgen hcell hy hl ((I2.mod.glob.keeps I2.bk).keeps kp) hml ((hb1.keeps I2.bk).keeps kp) ((hb2 _ (by decide)).trans bt_len) (hxs x hx) hd
    exact hr.depth
  · have hnp : H2 (s2.heap.objs.size + 1) = none := I2.hok.fresh (Nat.le_succ _)
    have hl2 : ((byLen xs).map V.str).length ≤ sizeLine := by
      rw [List.length_map]
      unfold byLen
      rw [List.length_mergeSort]
      exact hlen
    exact ⟨.ref _, upd H2 (s2.heap.objs.size + 1) (.lst ((byLen xs).map V.str)), I2.laid (t' := tk) kp (Nat.le_succ _) ⟨hl2, out, c0, vals_each eo, hD⟩, rfl, q _ _ hT2 kE hnp⟩
/-- sorted(e, key=len) -/
def tSL (K : PySem.W.Frag) (te : TE) : TE := fun σ H Q => te σ H fun v H1 => ∃ l xs, v = V.ref l ∧ SqL K H1 l (xs.map V.str) ∧ (∀ x ∈ xs, x.length ≤ sizeLine) ∧ ∀ p, H1 p = none → Q (.ref p) (upd H1 p (.lst ((byLen1 xs).map V.str)))
theorem pe_sortLen {e : Expr} {te : TE} {k : Nat} {p pos kpos p1 : Pos} (hg : Gl X "sorted") (hm : X.mg "sorted" = none) (hg2 : Gl X "len") (hml : X.mg "len" = none) (hr : Room k X.A) (he : PE X e te)
    (hs : starEach [e] X.env = (false, eval e X.env) :: starEach [] X.env := by rfl) :
    PE X (.Call (.Name "sorted" p) [e] [⟨some "key", .Name "len" p1, kpos⟩] pos) (tSL X.K te) := by
  refine ⟨fun pins s σ H Q I h => ?_⟩
  refine wpAny_Call_Name_kw (ld_blt I hg hm bt_sorted ?_)
  have he' : backTo pos (starEach [e] X.env) = (false, eval e X.env) :: backTo pos (starEach [] X.env) := by rw [hs]; rfl
  refine PyProof.Rows.callWith_kw ?_ he' (by rw [he']; rfl) rfl rfl
  rw [he']
  refine Calls.spliced_cons (thn (he.run pins s σ H _ I h) fun u s1 ⟨v, H1, I1, r1, q1⟩ => Calls.spliced_nil ?_)
  obtain ⟨l, xs, rfl, hq, hxs, q⟩ := q1
  cases r1
  show wpAny _ _ (evalAll ((do let v ← eval _ X.env; standAt pos; pure v) :: [])) _ _ s1
  refine wpAny_evalAll_cons (wpAny_bind (ld_blt I1 hg2 hml bt_len (wpAny_bind (wpAny_standAt (wpAny_pure (wpAny_evalAll_nil ?_))))))
  obtain ⟨its, rv, pl, hz⟩ := I1.list hq
  have ez := each_vals rv
  have hlen : xs.length ≤ sizeLine := by rw [List.length_map] at hz; exact hz
  have hun := hr.units
  refine sorted_key_data (b := false) (fun x : Str => .int x.length) pl.isList ez (AllAlike.of fun _ _ => by simp [alike, alikeAll]) (.inr fun d hd => ?_) hlen (fun x _ => ?_) (ksk_s1 _ _) (fun _ => ksk_l1 _ _) (fun _ => ksk_t4 _ _) (fun v x ⟨u, e⟩ hx h tk kp => ?_) fun out c0 h' tk kp hn hD hol eo => ?_
  · obtain ⟨x, _, rfl⟩ := List.mem_map.mp hd
    exact ⟨(fun z => by cases z), fun _ z => by cases z⟩
  · have hd : (PyData.int x.length).depth = 0 := by simp [PyData.depth]
    omega
  · subst e
    have h63 := line63
    have hx' := hxs x hx
    refine len_str (by omega) ⟨_, _, rfl, fun _ _ e => e, .int _ _⟩
  · have hnp : H1 (s1.heap.objs.size + 1) = none := I1.hok.fresh (Nat.le_succ _)
    have hl2 : ((byLen1 xs).map V.str).length ≤ sizeLine := by
      rw [List.length_map]
      unfold byLen1
      rw [List.length_mergeSort]
      exact hlen
    exact ⟨.ref _, upd H1 (s1.heap.objs.size + 1) (.lst ((byLen1 xs).map V.str)), I1.laid (t' := tk) kp (Nat.le_succ _) ⟨hl2, out, c0, vals_each eo, hD⟩, rfl, q _ hnp⟩
end
end SK

end sec_SK2
section sec_FD8
set_option maxRecDepth 100000
set_option maxHeartbeats 5000000
/-! FD8: C(..), built-in functions and operators, stores into what a slot owns. -/
namespace FD
open PySem L2
variable [Tabl]

structure MakD (P : Program) (w : World) (K : PySem.W.Frag) (mg : Str → Option Value) (base : Heap) (k : Nat) (cn : Str) (n : Nat) (dd : List D) (den : List D → W → Option (List (Str × D) × W)) : Prop where
  ex : ∃ (C f : Addr) (fd : FuncData) (ps : List Str) (ds : List Value) (dvs : List V), Mk K C f ∧ FnOk P w K mg base CX0 k f fd ps (spI ⟨K, mg⟩ n cn den) ∧ mg cn = some (.ref C) ∧ Binds K fd ps ds ∧ Vals dvs ds ∧ ∀ da G, RepAll ⟨K, mg⟩ da G dvs dd
def makM (cn : Str) (den : List D → W → Option (List (Str × D) × W)) (dd : List D) (fa : M (List RV)) : M RV := bindM fa fun rs => bindM (escAll rs) fun ds => fun ρ w => match den (ds ++ dd) w with
  | some (gs, w') => some (.sh (.ins cn gs), ρ, w')
  | none => none
section
variable {X : Cx} {e o : Expr} {es : List Expr} {pos p apos cpos : Pos} {x m f cn : Str} {k j n : Nat} {dd : List D} {fa : M (List RV)} {fo fe fe' : M RV}
theorem fe_make {den : List D → W → Option (List (Str × D) × W)} (cl : MakD X.prog X.w X.K X.mg X.base k cn n dd den) (hr : Room j X.A) (hg : Gl X cn) (ha : FA X (e :: es) fa) (hk : k + 1 ≤ j := by decide) (hn : (e :: es).length + dd.length + 1 = n := by rfl)
    (hdb : (cn == ("__debug__" : Str)) = false := by decide) (he : starEach (e :: es) X.env = (false, eval e X.env) :: starEach es X.env := by rfl) (hpl : (backTo pos (starEach es X.env)).any (·.1) = false := by rfl) :
    FE X (.Call (.Name cn p) (e :: es) [] pos) (makM cn den dd fa) := fun F => by
  obtain ⟨C, f, fd, ps, ds, dvs, M, FO, hm, b, d, rd⟩ := cl.ex
  refine PE.wk (pe_make M FO (hr.mono hk) hg hm b d pass0 (ha.run F) hdb he hpl) fun σ H Q q => ?_
  obtain ⟨O, ρ, w, r, ρ', w', S, e, k⟩ := q
  refine tA_then S e fun vs O1 ρ1 w1 H1 rs S1 e1 R1 f1 h1 => ?_
  obtain ⟨ds1, ρ2, w2, h2, h3⟩ := bindM_some h1
  obtain ⟨rfl, O2, S2, k2, r2⟩ := escAll_ok S1 R1 h2
  split at h3
  · rename_i gs w3 h4
    cases h3
    intro y dx ny ndx ne
    have nO : y ∉ O2 := fun z => by
      obtain ⟨o, q, _⟩ := S2.trk y z
      rw [ny] at q
      cases q
    have x3 : Ex H1 (upd (upd H1 dx (.own y)) y (.ins C dx [])) := fun a o h => by
      rw [upd_ne (ne_of_none h ny), upd_ne (ne_of_none h ndx)]
      exact h
    have xh : Ex (vis O2 H1) (vis (y :: O2) (upd (upd H1 dx (.own y)) y (.ins C dx []))) := fun a o h => by
      obtain ⟨n, h⟩ := vis_some h
      rw [vis_out fun z => ?_]
      · exact x3 a o h
      · rcases List.mem_cons.mp z with z | z
        · exact ne_of_none h ny z
        · exact n z
    refine ⟨y, C, dx, vs ++ dvs, F.dr, O2, _, ds1 ++ dd, gs, _, rfl, hm, upd_same, nO, S2.drO, fun b hb => ?_, S2.draw.mono x3, (r2.append (rd _ _)).mono xh, ?_, h4, fun H' dx' fs kp hw ha rf => ⟨rfl, ?_⟩⟩
    · obtain ⟨o, q, nt⟩ := S2.trk b hb
      exact ⟨o, x3 _ _ q, nt⟩
    · rw [List.length_append, r2.len2, ← R1.length, ha.len _ _ _ _ _ f1]
      exact hn
    · have kp' : Kp F.dr H1 H' := fun b o hb nd => kp b o (x3 b o hb) (ne_of_none hb ny) nd
      refine k _ O2 H' (S2.kept kp' hw) ((e1.trans k2).trans (vis_kp S2.drO kp')) (.ins (C := C) (dx := dx') (fs := fs) ?_ hm (rf.mono vis_cons))
      rw [vis_out nO]
      exact ha
  · cases h3

/-! ### built-in functions -/
def bM (g : List D → Option RV) (fa : M (List RV)) : M RV := bindM fa fun rs => liftN g rs
theorem b_read {c : Ct} {F : Fm} {g : List D → Option RV} {σ : L2.St} {H : Hp} {Q : VK} (h : tE c F (bM g fa) σ H Q) : tCB (rPure c g) (tA c F fa) σ H Q := by
  obtain ⟨O, ρ, w, r, ρ', w', S, e, k⟩ := h
  refine tA_then S e fun vs O1 ρ1 w1 H1 rs S1 e1 R1 f1 h1 => ?_
  obtain ⟨ds, r', p1, eg, ez⟩ := liftN_some h1
  cases ez
  exact ⟨F.dr.da, O1, ds, r, S1.trk, R1.peeks S1 p1, eg, fun v H3 e3 n => k v O1 H3 (S1.grow e3) (e1.trans (vis_mono e3)) ((n.out S1 e3).less e1)⟩
theorem fe_b {id : String} {g : List D → Option RV} (hc : CallR X (.builtin id) (rPure (ct X) g)) (hg : Gl X x) (hm : X.mg x = none) (hv : bootBuiltins x = some (.builtin id)) (ha : FA X (e :: es) fa) (hn : x ≠ "__name__" := by decide) (hdb : (x == ("__debug__" : Str)) = false := by decide)
    (he : starEach (e :: es) X.env = (false, eval e X.env) :: starEach es X.env := by rfl) (hpl : (backTo pos (starEach es X.env)).any (·.1) = false := by rfl) : FE X (.Call (.Name x p) (e :: es) [] pos) (bM g fa) := fun F =>
  PE.wk (pe_callB hc hg hm hv (ha.run F) hn hdb he hpl) fun σ H Q q => b_read q
theorem fe_ty {T : String} {g : List D → Option RV} (hc : CallR X (.type T) (rPure (ct X) g)) (hg : Gl X x) (hm : X.mg x = none) (hv : bootBuiltins x = some (.type T)) (ha : FA X (e :: es) fa) (hn : x ≠ "__name__" := by decide) (hdb : (x == ("__debug__" : Str)) = false := by decide)
    (he : starEach (e :: es) X.env = (false, eval e X.env) :: starEach es X.env := by rfl) (hpl : (backTo pos (starEach es X.env)).any (·.1) = false := by rfl) : FE X (.Call (.Name x p) (e :: es) [] pos) (bM g fa) := fun F =>
  PE.wk (pe_callTy hc hg hm hv (ha.run F) hn hdb he hpl) fun σ H Q q => b_read q
theorem fe_ix {a b : Expr} {fa fb : M RV} {g : D → D → Option RV} (hr : IxR X (rP2 (ct X) g)) (ha : FE X a fa) (hb : FE X b fb) (hs : PlainIx b) : FE X (.Subscript a b pos) (op2M g fa fb) := fun F =>
  PE.wk (pe_ix hr (ha F) (hb F) hs) fun σ H Q h => op2_read h
/-- o.m(e), a method of a text -/
def strM (g : Str → D → Option RV) (fo fe : M RV) : M RV := bindM fo fun r => match r with
  | .sh (.str s) => bindM fe fun r2 => lift1 (g s) r2
  | _ => failM
abbrev Alone (X : Cx) (e : Expr) : Prop := starEach [e] X.env = [(false, eval e X.env)]
abbrev BaseOk (X : Cx) (o : Expr) (m : Str) : Prop := attributeBase o m X.env (eval o X.env) = eval o X.env
theorem fe_m1 {id : String} {name : Str} {g : Str → D → Option RV} (slot : PySem.Slot "str" name id) (ty : typeOf (.builtin id) = pure (.type "method_descriptor")) (rule : MtR X id (fun x xs H Q => ∃ s y, x = .str s ∧ xs = [y] ∧ rP1 (ct X) (g s) y H Q)) (ho : FE X o fo) (he : FE X e fe)
    (hs : Alone X e := by rfl) (hbase : BaseOk X o name := by rfl) (hline : (apos.endLine == pos.line) = true := by rfl) :
    FE X (.Call (.Attribute o name apos) [e] [] pos) (strM g fo fe) := fun F =>
  PE.wk (pe_m1 slot ty rule (ho F) (he F) hs hbase hline) fun σ H Q h => by
    obtain ⟨O, ρ, w, r, ρ', w', S, e, k⟩ := h
    refine tE_then S e fun x O1 ρ1 w1 H1 r1 S1 e1 R1 h1 => ?_
    split at h1
    · rename_i s
      have ex : x = .str s := by
        cases R1
        rfl
      refine ⟨⟨s, ex⟩, ?_⟩
      refine tE_then S1 h1 fun y O2 ρ2 w2 H2 r2 S2 e2 R2 h2 => ?_
      obtain ⟨d1, r', p1, eg, ez⟩ := lift1_some h2
      cases ez
      exact ⟨s, y, ex, rfl, F.dr.da, O2, d1, r, S2.trk, R2.hold.peek S2 p1, eg, fun v H3 e3 n => k v O2 H3 (S2.grow e3) ((e1.trans e2).trans (vis_mono e3)) ((n.out S2 e3).less (e1.trans e2))⟩
    · cases h1
/-- o.m(), a method of a text -/
theorem fe_m0 {id : String} {name : Str} {g : D → Option RV} (slot : PySem.Slot "str" name id) (ty : typeOf (.builtin id) = pure (.type "method_descriptor")) (hgs : ∀ d r, g d = some r → ∃ s, d = .str s) (rule : MtR X id (fun x xs H Q => xs = [] ∧ rP1 (ct X) g x H Q)) (ho : FE X o fo)
    (hbase : attributeBase o name X.env (eval o X.env) = eval o X.env := by rfl) (hline : (apos.endLine == pos.line) = true := by rfl) :
    FE X (.Call (.Attribute o name apos) [] [] pos) (op1M g fo) := fun F =>
  PE.wk (pe_m0 slot ty rule (ho F) hbase hline) fun σ H Q h => by
    obtain ⟨O, ρ, w, r, ρ', w', S, e, k⟩ := h
    refine tE_then S e fun x O1 ρ1 w1 H1 r1 S1 e1 R1 h1 => ?_
    obtain ⟨d1, r', p1, eg, ez⟩ := lift1_some h1
    cases ez
    obtain ⟨s, rfl⟩ := hgs _ _ eg
    have ex := (R1.hold.peek S1 p1).str
    exact ⟨⟨s, ex⟩, rfl, F.dr.da, O1, _, r, S1.trk, R1.hold.peek S1 p1, eg, fun v H3 e3 n => k v O1 H3 (S1.grow e3) (e1.trans (vis_mono e3)) ((n.out S1 e3).less e1)⟩

/-! ### sorted(set(text)), sorted by key -/
theorem new_lst {c : Ct} {F : Fm} {O : List Addr} {ρ : Env} {w : W} {σ : L2.St} {H : Hp} {p : Addr} {xs : List V} {ds : List D} (S : SR c F O ρ w σ H) (np : H p = none) (r : RepAll c F.dr.da (vis O H) xs ds) :
    SR c F O ρ w σ (upd H p (.lst xs)) ∧ Ex (vis O H) (vis O (upd H p (.lst xs))) ∧ RepR c F (vis O H) O ρ w σ (upd H p (.lst xs)) (.fr (.lst ds)) (.ref p) := by
  have x2 : Ex H (upd H p (.lst xs)) := Ex.new np
  obtain ⟨S3, n3, k3⟩ := S.hide np x2 upd_same
  exact ⟨S.grow x2, vis_mono x2, p, _, rfl, n3, S3, upd_same, .inl ⟨xs, ds, rfl, rfl, r.mono k3⟩, k3⟩
def ssetM (f : M RV) : M RV := bindM f fun r => match r with
  | .sh (.str x) => if x.cps.size < 4000 then pureM (.fr (.lst ((ST.sset x).map D.str))) else failM
  | _ => failM
theorem fe_sset {p2 q : Pos} (hc : X.calm = true) (hg : Gl X "sorted") (hm : X.mg "sorted" = none) (hg2 : Gl X "set") (hm2 : X.mg "set" = none) (ha : FE X e fe)
    (na : starEach [e] X.env = (false, eval e X.env) :: starEach [] X.env := by rfl) : FE X (.Call (.Name "sorted" p) [.Call (.Name "set" p2) [e] [] q] [] pos) (ssetM fe) := fun F =>
  PE.wk (ST.pe_sortedSet hc hg hm hg2 hm2 (ha F) na) fun σ H Q h => by
    obtain ⟨O, ρ, w, r, ρ', w', S, e, k⟩ := h
    refine tE_then S e fun v O1 ρ1 w1 H1 r1 S1 e1 R1 h1 => ?_
    split at h1
    · rename_i x
      split at h1
      · rename_i hx
        cases h1
        cases R1
        refine ⟨x, rfl, by unfold scanBound; omega, fun p np => ?_⟩
        obtain ⟨S2, k2, R2⟩ := new_lst S1 np (RepAll.strs (ST.sset x))
        exact k _ O1 _ S2 (e1.trans k2) (R2.less e1)
      · cases h1
    · cases h1
def asStr : D → Option Str
  | .str x => some x
  | _ => none
def asStrs : List D → Option (List Str)
  | [] => some []
  | d :: r => match asStr d with
    | some x => (match asStrs r with | some xs => some (x :: xs) | none => none)
    | none => none
theorem asStrs_map : ∀ (xs : List Str), asStrs (xs.map D.str) = some xs
  | [] => rfl
  | x :: r => by
    rw [List.map_cons]
    unfold asStrs
    rw [asStrs_map r]
    rfl
theorem asStrs_some : ∀ {ds : List D} {xs : List Str}, asStrs ds = some xs → ds = xs.map D.str
  | [], _, h => by
    cases h
    rfl
  | d :: r, _, h => by
    unfold asStrs at h
    split at h
    · rename_i x e
      split at h
      · rename_i xs e2
        cases h
        rw [asStrs_some e2]
        unfold asStr at e
        split at e
        · cases e
          rfl
        · cases e
      · cases h
    · cases h
def textsD : D → Option (List Str)
  | .lst ds => asStrs ds
  | _ => none
def sortM (srt : List Str → List Str) (f : M RV) : M RV := bindM f fun r => lift1 (fun d => match textsD d with
  | some xs => if xs.all (fun x => decide (x.length ≤ 1000000)) = true then some (.fr (.lst ((srt xs).map D.str))) else none
  | none => none) r
theorem textsD_lst {d : D} {xs : List Str} (h : textsD d = some xs) : d = .lst (xs.map D.str) := by
  unfold textsD at h
  split at h
  · rw [asStrs_some h]
  · cases h
theorem sort_in {r : RV} {srt : List Str → List Str} {ρ : Env} {w : W} {z : RV × Env × W} (h : lift1 (fun d => match textsD d with
  | some xs => if xs.all (fun x => decide (x.length ≤ 1000000)) = true then some (RV.fr (.lst ((srt xs).map D.str))) else none
  | none => none) r ρ w = some z) : ∃ xs, peek ρ r = some (.lst (xs.map D.str)) ∧ (∀ x ∈ xs, x.length ≤ sizeLine) ∧ z = (.fr (.lst ((srt xs).map D.str)), ρ, w) := by
  obtain ⟨d1, r', p1, eg, ez⟩ := lift1_some h
  split at eg
  · rename_i xs ex
    split at eg
    · rename_i hx
      cases eg
      refine ⟨xs, by rw [p1, textsD_lst ex], fun x hx' => small_fits ?_, ez⟩
      simpa using List.all_eq_true.mp hx x hx'
    · cases eg
  · cases eg
theorem fe_sortLen {p1 kpos : Pos} (hg : Gl X "sorted") (hm : X.mg "sorted" = none) (hg2 : Gl X "len") (hml : X.mg "len" = none) (hr : Room k X.A) (ha : FE X e fe)
    (na : starEach [e] X.env = (false, eval e X.env) :: starEach [] X.env := by rfl) : FE X (.Call (.Name "sorted" p) [e] [⟨some "key", .Name "len" p1, kpos⟩] pos) (sortM SK.byLen1 fe) := fun F =>
  PE.wk (SK.pe_sortLen hg hm hg2 hml hr (ha F) na) fun σ H Q h => by
    obtain ⟨O, ρ, w, r, ρ', w', S, e, k⟩ := h
    refine tE_then S e fun v O1 ρ1 w1 H1 r1 S1 e1 R1 h1 => ?_
    obtain ⟨xs, p1, hx, ez⟩ := sort_in h1
    cases ez
    obtain ⟨l, ys, rfl, hl, ra⟩ := (R1.hold.peek S1 p1).lst
    obtain rfl := ra.strs_inv
    refine ⟨l, xs, rfl, .inl (.inl hl), hx, fun p np => ?_⟩
    obtain ⟨S2, k2, R2⟩ := new_lst S1 np (RepAll.strs (SK.byLen1 xs))
    exact k _ O1 _ S2 (e1.trans k2) (R2.less e1)
theorem cr_sortedTexts : CallR X (.builtin "sorted") (fun vs H Q => ∃ (a : Addr) (xs : List Str), vs = [V.ref a] ∧ SqL X.K H a (xs.map V.str) ∧ ∀ (ys : List Str) (p : Addr), ys.Perm xs → PyProof.Rows.sortedS ys = true → H p = none → Q (.ref p) (upd H p (.lst (ys.map V.str)))) := by
  rintro pins s σ H _ us Q I r ⟨a, xs, rfl, sq, post⟩
  obtain ⟨items, rv, isL, few⟩ := I.list sq
  rw [List.length_map] at few
  have n : xs.length = items.length := by simpa using rv.length
  rw [Vals.ref1 r]
  apply PyProof.Rows.sorted_strsAny isL.isList rv.strs (by rw [← n]; exact few)
  intro out ys txt pm up
  obtain ⟨c, at_⟩ := PyProof.Rows.sortedAll_at s.heap items out
  have free := I.hok.fresh (Nat.le_succ s.heap.objs.size)
  have made : ObjOk X.prog X.w (upd H (s.heap.objs.size + 1) (.lst (ys.map V.str))) (PyProof.Rows.sortedAll s.heap items out) (s.heap.objs.size + 1) (.lst (ys.map V.str)) := ⟨by rw [List.length_map, pm.length_eq]; exact few, out.toList, c, vals_of_strs txt, at_⟩
  exact ⟨.ref (s.heap.objs.size + 1), _, I.laid (t' := s.toks) (fun _ _ => PyProof.Rows.sortedAll_old) (Nat.le_succ _) made, rfl, post ys _ pm up free⟩
end
end FD

end sec_FD8
section sec_OE1
set_option maxRecDepth 100000
set_option maxHeartbeats 5000000
/-! OE: != of an instance by object.__ne__ over an own __eq__, whatever stands at the right. -/
namespace OE
open PySem PySem.Spec PyProof.Rows L2
/-- the class at C has an own __eq__ at f, and object's __ne__ -/
structure OwnEq (K : PySem.W.Frag) (C f : Addr) : Prop where
  ne : PySem.W.findIn K (.ref C) "__ne__" = some (some (.builtin "object.__ne__"))
  obj : PySem.W.subIn K (.ref C) (.type "object") = some true
  eq : PySem.W.findIn K (.ref C) "__eq__" = some (some (.ref f))
  fn : PySem.W.isFn K (.ref f) = true
section
variable {P : Program} {w : World} {A : Around} {E : Value → Shared → Prop} {s : Shared} {K : PySem.W.Frag} {x C f : Addr} {ox : Obj} {od : Option Obj} {b tb : Value}
/-- the answer of __eq__, turned about -/
def Turned (Q : Value → Shared → Prop) (v : Value) (s : Shared) : Prop := ∃ c, v = .bool c ∧ Q (.bool (!c)) s
theorem slot {Q : Value → Shared → Prop} (room : A.units + 1 < cLine) (X : K.In s.heap) (I : PySem.W.InstAt s.heap x ox C od) (O : OwnEq K C f) (run : wpAny (model P w) A.in1 (call (.ref f) [.ref x, b]) (Turned Q) E s) :
    wpAny (model P w) A (call (.builtin "object.__ne__") [.ref x, b]) Q E s := by
  apply wpAny_call
  apply codeAny_call_builtin (by decide +kernel) F.cmpEntry_ne
  apply PySem.W.check_slot (M := model P w) F.cmpKind_ne F.cmpSplit_ne (I.type.andThen (PySem.W.looks_subIn X O.obj)) (F.cmpArgs_ne _ _)
  show wpAny _ A.in1 (Builtin.«object.__ne__» _) _ _ s
  rw [Builtin.«object.__ne__»]
  apply wpAny_bind (m := slotArgs "__ne__" 1 ⟨[.ref x, b], []⟩)
  apply wpAny_pure
  apply wpAny_bind
  apply wpAny_cRoomFor (A := A.in1) room
  apply wpAny_bind
  apply PySem.W.ifBound_K X I O.eq O.fn
  apply wpAny_mono run ?_ (fun _ _ => id)
  rintro v s2 ⟨c, rfl, q⟩
  exact wpAny_bind (wpAny_truthy_bool (wpAny_pure q))
theorem bound {Q : Option Value → Shared → Prop} (room : A.units + 1 < cLine) (X : K.In s.heap) (I : PySem.W.InstAt s.heap x ox C od) (O : OwnEq K C f) (run : wpAny (model P w) A.in1 (call (.ref f) [.ref x, b]) (Turned fun v => Q (some v)) E s) :
    wpAny (model P w) A (callSpecialIfBound? (.ref x) "__ne__" [b]) Q E s := by
  have self : bindSpecial (.builtin "object.__ne__") (.ref x) = pure (.builtin "object.__ne__", [.ref x]) := by kernel_rfl
  have last : wpAny (model P w) A (do let v ← call (.builtin "object.__ne__") ([.ref x] ++ [b]); pure (some v)) Q E s :=
    wpAny_bind (wpAny_mono (slot (Q := fun v => Q (some v)) room X I O run) (fun _ _ => wpAny_pure) fun _ _ => id)
  unfold callSpecialIfBound? bindSpecialIfBound?
  apply wpAny_holding
  apply wpAny_bind
  apply wpAny_bind
  apply wpAny_bind
  apply I.type.here
  apply (PySem.W.looks_findIn X O.ne).here
  apply wpAny_bind
  apply wpAny_askSetting
  apply wpAny_ite
  split <;> rw [self]
  · exact wpAny_bind (wpAny_pure (wpAny_pure last))
  · exact wpAny_tryCatch (wpAny_bind (wpAny_pure (wpAny_pure last)))
theorem ne_own {Q : Value → Shared → Prop} (room : A.units + 1 < cLine) (X : K.In s.heap) (I : PySem.W.InstAt s.heap x ox C od) (O : OwnEq K C f) (right : PySem.W.Looks (model P w) s.heap (typeOf b) tb) (later : PySem.W.notFirst K C tb = true)
    (run : wpAny (model P w) A.in1 (call (.ref f) [.ref x, b]) (Turned Q) E s) : wpAny (model P w) A (richCompare .NotEq (.ref x) b) Q E s := by
  have asked : wpAny (model P w) A (tryCompare (.ref x) "__ne__" b) (fun r s2 => ∃ v, r = some v ∧ Q v s2) E s := by
    unfold tryCompare
    apply wpAny_bind
    apply bound room X I O
    apply wpAny_mono run ?_ (fun _ _ => id)
    rintro v s2 ⟨c, rfl, q⟩
    exact ⟨c, rfl, wpAny_pure ⟨_, rfl, q⟩⟩
  have told : ∀ {g : Option Value → Sem Value} (hg : ∀ v, g (some v) = pure v), wpAny (model P w) A (tryCompare (.ref x) "__ne__" b >>= g) Q E s := by
    intro g hg
    apply wpAny_bind
    apply wpAny_mono asked ?_ (fun _ _ => id)
    rintro r s2 ⟨v, rfl, q⟩
    rw [hg]
    exact wpAny_pure q
  have roomy : A.units < cLine := Nat.lt_of_succ_lt room
  unfold richCompare
  simp only [oneThing_ref]
  apply wpAny_holding
  apply wpAny_bind
  apply wpAny_cRoomFor roomy
  apply wpAny_bind
  apply I.type.here
  apply wpAny_bind
  apply right.here
  by_cases same : (Value.ref C != tb) = true
  · rw [if_pos same]
    have no : PySem.W.subIn K tb (.ref C) = some false := by
      unfold PySem.W.notFirst at later
      simp only [Bool.or_eq_true, beq_iff_eq] at later
      rcases later with z | z
      · rw [z] at same
        simp at same
      · exact z
    apply wpAny_bind
    apply (PySem.W.looks_subIn X no).here
    exact told fun _ => rfl
  · rw [if_neg same]
    apply wpAny_bind
    apply wpAny_pure
    exact told fun _ => rfl
end
end OE

end sec_OE1
section sec_FD9
set_option maxRecDepth 100000
set_option maxHeartbeats 5000000
/-! FD9: kinds of values, isinstance, own ==, lists that a slot owns. -/
namespace FD
open PySem L2
variable [Tabl]

def tyB : D → Option String
  | .non => some "NoneType"
  | .bl _ => some "bool"
  | .int _ => some "int"
  | .str _ => some "str"
  | .tup _ => some "tuple"
  | .ktup _ => some "tuple"
  | .lst _ => some "list"
  | .dic _ => some "dict"
  | .dit _ => some "dict"
  | _ => none
section
variable {c : Ct} {da : Option Addr} {O : List Addr} {H : Hp} {v : V}
theorem ty_of {d : D} {T : String} (h : RepP c da O H v d) (e : tyB d = some T) : TyX c.K H v (.type T) := by
  cases d with
  | non => cases e; rw [h.non]; exact .base .non
  | bl b => cases e; rw [h.bl]; exact .base (.bl b)
  | int i => cases e; rw [h.int]; exact .base (.int i)
  | str x => cases e; rw [h.str]; exact .base (.str x)
  | tup ds =>
    cases e
    obtain ⟨a, xs, rfl, s, _, _⟩ := h.tup
    rcases s with (s | ⟨o, s⟩) | ⟨o, its, n, hk, hc, _⟩
    · exact .base (.tup s)
    · exact .fTuple s
    · exact .kTuple hk hc
  | ktup ds =>
    cases e
    obtain ⟨a, xs, rfl, s, _, _⟩ := h.ktup
    rcases s with (s | ⟨o, s⟩) | ⟨o, its, n, hk, hc, _⟩
    · exact .base (.tup s)
    · exact .fTuple s
    · exact .kTuple hk hc
  | lst ds =>
    cases e
    obtain ⟨a, xs, rfl, s, _⟩ := h.lst
    exact .base (.lst s)
  | dic ps =>
    cases e
    obtain ⟨a, kvs, rfl, s, _⟩ := h.dic
    exact .base (.dK s)
  | dit ps =>
    cases e
    obtain ⟨a, kvs, rfl, s, _⟩ := h.dit
    exact .base (.dT s)
  | _ => cases e
structure InsTy (K : PySem.W.Frag) (mg : Str → Option Value) (cn : Str) (C : Addr) : Prop where
  m : mg cn = some (.ref C)
  cl : Cls K C
  ok : PySem.W.findIn K (.ref C) "__class__" = some (some (.builtin "object.__class__")) ∧ PySem.W.specialIn K (.builtin "object.__class__") "__get__" = some (some (.builtin "getset_descriptor.__get__")) ∧
    PySem.W.takesIn K (.builtin "object.__class__") = some true ∧ PySem.W.mroIn K C (.type "object") = some true
theorem ty_ins {cn : Str} {gs : List (Str × D)} {C : Addr} (h : RepP c da O H v (.ins cn gs)) (i : InsTy c.K c.mg cn C) : TyX c.K H v (.ref C) := by
  obtain ⟨a, C', dx, fs, rfl, e, m, _⟩ := h.ins
  rw [i.m] at m
  cases m
  exact .base (.ins e i.cl i.ok.1 i.ok.2.1 i.ok.2.2.1 i.ok.2.2.2)
end
/-- what is known of a value's type: bt of the built-in ones, ic of instances -/
structure KndD (K : PySem.W.Frag) (mg : Str → Option Value) (ok : Value → Bool → Prop) (bt : String → Bool) (ic : List (Str × Bool)) : Prop where
  bi : ∀ T ∈ ["NoneType", "bool", "int", "str", "tuple", "list", "dict"], ok (.type T) (bt T)
  ins : ∀ p ∈ ic, ∃ C, InsTy K mg p.1 C ∧ ok (.ref C) p.2
def isiD (bt : String → Bool) (ic : List (Str × Bool)) : D → Option Bool
  | .ins cn _ => ic.lookup cn
  | d => (tyB d).map bt
theorem lookup_mem {α : Type} {l : List (Str × α)} {k : Str} {x : α} (h : l.lookup k = some x) : (k, x) ∈ l := PySem.mem_of_lookup h
theorem knd_of {c : Ct} {da : Option Addr} {O : List Addr} {H : Hp} {v : V} {d : D} {ok : Value → Bool → Prop} {bt : String → Bool} {ic : List (Str × Bool)} {b : Bool} (k : KndD c.K c.mg ok bt ic) (h : RepP c da O H v d) (e : isiD bt ic d = some b) : ∃ t, TyX c.K H v t ∧ ok t b := by
  have gen : ∀ d, RepP c da O H v d → (tyB d).map bt = some b → ∃ t, TyX c.K H v t ∧ ok t b := fun d h e => by
    cases q : tyB d with
    | none =>
      rw [q] at e
      cases e
    | some T =>
      rw [q] at e
      cases e
      refine ⟨_, ty_of h q, k.bi T ?_⟩
      cases d <;> first | cases q; done | (cases q; simp)
  cases d with
  | ins cn gs =>
    obtain ⟨C, i, o⟩ := k.ins _ (lookup_mem e)
    exact ⟨_, ty_ins h i, o⟩
  | _ => exact gen _ h e

section
variable {X : Cx} {a b e o c1 : Expr} {es cs : List Expr} {pos p p2 apos cpos : Pos} {x m f cn : Str} {k j n i : Nat} {dd : List D} {fa fb fo fe fe' : M RV} {fas : M (List RV)}
def tKs (us : List V) : TA := fun _ H Q => Q us H
theorem pks_nil : PA X [] (tKs []) := pa_nil
theorem pks_cons {u : V} {us : List V} (h : PE X e (tC u)) (hr : PA X es (tKs us)) (hs : starEach (e :: es) X.env = (false, eval e X.env) :: starEach es X.env := by rfl) : PA X (e :: es) (tKs (u :: us)) := pa_cons h hr hs
theorem bt_isi : bootBuiltins "isinstance" = some (.builtin "isinstance") := by decide +kernel
def isiM (bt : String → Bool) (ic : List (Str × Bool)) (fa : M RV) : M RV := op1M (fun d => (isiD bt ic d).map fun b => .sh (.bl b)) fa
theorem fe_isi {u : V} {uv : Value} {bt : String → Bool} {ic : List (Str × Bool)} (hg : Gl X "isinstance") (hm : X.mg "isinstance" = none) (hc : PE X c1 (tC u)) (hu : ClsV u uv) (hk : KndD X.K X.mg (fun t b => PySem.W.kitOne X.K t uv = some b) bt ic) (ha : FE X a fa)
    (hs : starEach [a, c1] X.env = (false, eval a X.env) :: starEach [c1] X.env := by rfl) (hs2 : starEach [c1] X.env = (false, eval c1 X.env) :: starEach [] X.env := by rfl) (hpl : (backTo pos (starEach [c1] X.env)).any (·.1) = false := by rfl) :
    FE X (.Call (.Name "isinstance" p) [a, c1] [] pos) (isiM bt ic fa) := fun F =>
  PE.wk (pe_callB call_isi hg hm bt_isi (pa_cons (ha F) (pks_cons hc pks_nil hs2) hs) (by decide) (by decide) hs hpl) fun σ H Q q => by
    obtain ⟨O, ρ, w, r, ρ', w', S, e, k⟩ := q
    refine tE_then S e fun v O1 ρ1 w1 H1 r1 S1 e1 R1 h1 => ?_
    obtain ⟨d1, r', p1, eg, ez⟩ := lift1_some h1
    cases ez
    cases q : isiD bt ic d1 with
    | none =>
      rw [q] at eg
      cases eg
    | some b =>
      rw [q] at eg
      cases eg
      obtain ⟨t, ty, ok⟩ := knd_of (c := ct X) hk (R1.hold.peek S1 p1) q
      exact ⟨v, u, t, uv, b, rfl, hu, ty, ok, k _ O1 H1 S1 e1 (.bl b)⟩
theorem fe_isiT {us : List V} {uvs : List Value} {bt : String → Bool} {ic : List (Str × Bool)} {i1 : Nat} (hg : Gl X "isinstance") (hm : X.mg "isinstance" = none) (hc : PA X cs (tKs us)) (hl : us.length ≤ 1000000) (hu : Paired ClsV us uvs) (hk : KndD X.K X.mg (fun t b => PySem.W.kitAny X.K t uvs = some b) bt ic) (ha : FE X a fa)
    (hs : starEach [a, .Tuple cs i1 p2] X.env = (false, eval a X.env) :: starEach [.Tuple cs i1 p2] X.env := by rfl) (hs2 : starEach [.Tuple cs i1 p2] X.env = (false, eval (.Tuple cs i1 p2) X.env) :: starEach [] X.env := by rfl) (hpl : (backTo pos (starEach [.Tuple cs i1 p2] X.env)).any (·.1) = false := by rfl) :
    FE X (.Call (.Name "isinstance" p) [a, .Tuple cs i1 p2] [] pos) (isiM bt ic fa) := fun F =>
  PE.wk (pe_callB call_isiT hg hm bt_isi (pa_cons (ha F) (pa_cons (pe_tup hc) pa_nil hs2) hs) (by decide) (by decide) hs hpl) fun σ H Q q => by
    obtain ⟨O, ρ, w, r, ρ', w', S, e, k⟩ := q
    refine tE_then S e fun v O1 ρ1 w1 H1 r1 S1 e1 R1 h1 => ?_
    obtain ⟨d1, r', p1, eg, ez⟩ := lift1_some h1
    cases ez
    cases q : isiD bt ic d1 with
    | none =>
      rw [q] at eg
      cases eg
    | some b =>
      rw [q] at eg
      cases eg
      refine ⟨small_fits hl, fun p np => ?_⟩
      have x2 : Ex H1 (upd H1 p (.tup us)) := Ex.new np
      have S2 := S1.grow x2
      obtain ⟨t, ty, ok⟩ := knd_of (c := ct X) hk ((R1.hold.mono (vis_mono x2)).peek S2 p1) q
      exact ⟨v, p, us, t, uvs, b, rfl, upd_same, hu, ty, ok, k _ O1 _ S2 (e1.trans (vis_mono x2)) (.bl b)⟩

/-! ### an own __eq__ -/
theorem run_any {A : Around} {pins : List (Addr × PySem.Obj)} {σ : L2.St} {H : Hp} {s : Shared} {Q : VK} {us : List Value} {vs : List V} {f : Addr} {fd : FuncData} {ps : List Str} {sp : Sp} (F : FnOk X.prog X.w X.K X.mg X.base CX0 k f fd ps sp) (hr : Room k A) (e0 : Env0 X.prog X.w X.K X.mg X.base A X.stack s H) (hb : Binds X.K fd ps [])
    (I : Inv X pins σ H s) (r : Vals vs us) (h : sp vs H Q E0) : wpAny (model X.prog X.w) A (call (.ref f) us) (EP X pins σ Q) X.xe s := by
  have hb' := hb s us I.kIn (by rw [List.append_nil, ← r.length]; exact F.len vs H Q E0 h)
  rw [List.append_nil] at hb'
  refine wpAny_call (codeAny_mono (F.run A X.stack s H ⟨us, []⟩ us vs Q E0 hr e0 hb' r h) fun r s' hq => ?_)
  cases r with
  | error e => exact pass0 pins σ H s e s' I hq
  | ok fl =>
    cases fl with
    | ret u => exact I.after hq
    | next => exact False.elim hq
    | brk => exact False.elim hq
    | cont => exact False.elim hq
structure EqsD (P : Program) (w : World) (K : PySem.W.Frag) (mg : Str → Option Value) (base : Heap) (k : Nat) (cn : Str) (ic : List (Str × Bool)) (den : List D → W → Option (RV × W)) : Prop where
  ex : ∃ (C f : Addr) (fd : FuncData) (ps : List Str), mg cn = some (.ref C) ∧ PySem.W.findIn K (.ref C) "__ne__" = some (some (.builtin "object.__ne__")) ∧ PySem.W.subIn K (.ref C) (.type "object") = some true ∧ PySem.W.findIn K (.ref C) "__eq__" = some (some (.ref f)) ∧ PySem.W.isFn K (.ref f) = true ∧
    FnOk P w K mg base CX0 k f fd ps (spD ⟨K, mg⟩ 2 den) ∧ Binds K fd ps [] ∧ KndD K mg (fun t b => PySem.W.notFirst K C t = b ∧ b = true) (fun _ => true) ic
def rEq (c : Ct) (cn : Str) (ic : List (Str × Bool)) (den : List D → W → Option (RV × W)) (ne : Bool) : R2 := fun x y H Q => ∃ gs d2 da O, RepP c da O H x (.ins cn gs) ∧ RepP c da O H y d2 ∧ isiD (fun _ => true) ic d2 = some true ∧ spD c 2 den [x, y] H (fun v H' => ∃ b, v = .bl b ∧ Q (.bl (if ne then !b else b)) H') E0
theorem op_eqO {ic : List (Str × Bool)} {den : List D → W → Option (RV × W)} (cl : EqsD X.prog X.w X.K X.mg X.base k cn ic den) (hr : Room (k + 1) X.A) : OpR X (compareOp .Eq) (rEq (ct X) cn ic den false) := by
  intro pins s σ H x y v u Q I rx ry h
  obtain ⟨C, f, fd, ps, mc, h1, h2, h3, h4, FO, hb, kd⟩ := cl.ex
  obtain ⟨gs, d2, da, O, hx, hy, hi, q⟩ := h
  obtain ⟨t, ty, tn, _⟩ := knd_of (c := ct X) kd hy hi
  obtain ⟨a, C', dx, fs, rfl, ea, mc', _⟩ := hx.ins
  have eC : C' = C := by
    have z : X.mg cn = some (.ref C') := mc'
    rw [mc] at z
    cases z
    rfl
  subst eC
  obtain rfl : v = .ref a := rx
  obtain ⟨P, Z, p, _⟩ := kit_of I ry ty
  obtain ⟨mA, OM, _⟩ := ins_get I.hok ea
  obtain ⟨od, J, _⟩ := OM.look
  obtain ⟨m, hF⟩ := I.fr
  show wpAny _ _ (richCompare .Eq (.ref a) u) _ _ s
  refine PySem.W.cmp_K (op := .Eq) (tb := t) hr.units0 hF I.ok.mod.kin J (Z.ty _ _ I.kIn p) (by rw [tn]) h3 h4 ?_
  refine wpAny_mono (run_any (us := [.ref a, u]) (vs := [.ref a, y]) FO (hr.mono (Nat.le_succ _)) I.env0 hb I (.cons rfl (.cons ry .nil)) q) (fun w s' z => ?_) fun _ _ x => x
  obtain ⟨z', H', I', rz, b, rfl, qz⟩ := z
  exact SlX.cmpback rz ⟨.bl b, H', I', rz, qz⟩
theorem op_neO {ic : List (Str × Bool)} {den : List D → W → Option (RV × W)} (cl : EqsD X.prog X.w X.K X.mg X.base k cn ic den) (hr : Room (k + 1) X.A) : OpR X (compareOp .NotEq) (rEq (ct X) cn ic den true) := by
  intro pins s σ H x y v u Q I rx ry h
  obtain ⟨C, f, fd, ps, mc, h1, h2, h3, h4, FO, hb, kd⟩ := cl.ex
  obtain ⟨gs, d2, da, O, hx, hy, hi, q⟩ := h
  obtain ⟨t, ty, tn, tt⟩ := knd_of (c := ct X) kd hy hi
  obtain ⟨a, C', dx, fs, rfl, ea, mc', _⟩ := hx.ins
  have eC : C' = C := by
    have z : X.mg cn = some (.ref C') := mc'
    rw [mc] at z
    cases z
    rfl
  subst eC
  obtain rfl : v = .ref a := rx
  obtain ⟨P, Z, p, _⟩ := kit_of I ry ty
  obtain ⟨mA, OM, _⟩ := ins_get I.hok ea
  obtain ⟨od, J, _⟩ := OM.look
  have hun := hr.un
  show wpAny _ _ (richCompare .NotEq (.ref a) u) _ _ s
  refine OE.ne_own (tb := t) (by omega) I.kIn J ⟨h1, h2, h3, h4⟩ (Z.ty _ _ I.kIn p) (by rw [tn]) ?_
  refine wpAny_mono (run_any (us := [.ref a, u]) (vs := [.ref a, y]) FO hr.in1 I.env0.in1 hb I (.cons rfl (.cons ry .nil)) q) (fun w s' z => ?_) fun _ _ x => x
  obtain ⟨z', H', I', rz, b, rfl, qz⟩ := z
  have e : w = .bool b := rz
  subst e
  exact ⟨b, rfl, .bl (!b), H', I', rfl, qz⟩
end
end FD

end sec_FD9
section sec_FD10
set_option maxRecDepth 100000
set_option maxHeartbeats 5000000
/-! FD10: operators, subscripts, slices, built-in functions by plain data. -/
namespace FD
open PySem L2
variable [Tabl]

/-! ### comparisons of data -/
mutual
def toPy : D → Option PyData
  | .non => some .none
  | .bl b => some (.bool b)
  | .int i => some (.int i)
  | .str x => some (.str x)
  | .tup ds => (toPys ds).map .tuple
  | .ktup ds => (toPys ds).map .tuple
  | .lst ds => (toPys ds).map .list
  | _ => none
def toPys : List D → Option (List PyData)
  | [] => some []
  | d :: r => match toPy d with
    | some p => (toPys r).map (p :: ·)
    | none => none
end
section
variable {c : Ct} {da : Option Addr} {G H : Hp}
mutual
theorem Rep.dp (x : Ex G H) : ∀ {v : V} {d : D} {p : PyData}, Rep c da G v d → toPy d = some p → Dp c.K H v p
  | _, _, _, .non, e => by cases e; exact .non
  | _, _, _, .bl b, e => by cases e; exact .bl b
  | _, _, _, .int i, e => by cases e; exact .int i
  | _, _, _, .str y, e => by cases e; exact .str y
  | _, _, _, .ty n, e => by cases e
  | _, _, _, .draw h, e => by cases e
  | _, .tup ds, _, .tup s r, e => by
    simp only [toPy] at e
    cases q : toPys ds with
    | none =>
      rw [q] at e
      cases e
    | some ps =>
      rw [q] at e
      cases e
      exact .tup (.inl (.inl (x _ _ s))) (RepAll.dp x r q)
  | _, .ktup ds, _, .ktup s r, e => by
    simp only [toPy] at e
    cases q : toPys ds with
    | none =>
      rw [q] at e
      cases e
    | some ps =>
      rw [q] at e
      cases e
      exact .tup (x.st s) (RepAll.dp x r q)
  | _, .lst ds, _, .lst s r, e => by
    simp only [toPy] at e
    cases q : toPys ds with
    | none =>
      rw [q] at e
      cases e
    | some ps =>
      rw [q] at e
      cases e
      exact .lst (.inl (.inl (x _ _ s))) (RepAll.dp x r q)
  | _, _, _, .scr s, e => by cases e
  | _, _, _, .dK s r, e => by cases e
  | _, _, _, .dT s r, e => by cases e
  | _, _, _, .fdT s r, e => by cases e
  | _, _, _, .ins s m r, e => by cases e
theorem RepAll.dp (x : Ex G H) : ∀ {vs : List V} {ds : List D} {ps : List PyData}, RepAll c da G vs ds → toPys ds = some ps → DpAll c.K H vs ps
  | _, _, _, .nil, e => by
    simp only [toPys] at e
    cases e
    exact .nil
  | _, d :: ds, _, .cons h r, e => by
    simp only [toPys] at e
    cases q : toPy d with
    | none =>
      rw [q] at e
      cases e
    | some p =>
      rw [q] at e
      dsimp only at e
      cases q2 : toPys ds with
      | none =>
        rw [q2] at e
        cases e
      | some ps =>
        rw [q2] at e
        cases e
        exact .cons (Rep.dp x h q) (RepAll.dp x r q2)
end
theorem RepP.dp {O : List Addr} {v : V} {d : D} {p : PyData} (h : RepP c da O H v d) (e : toPy d = some p) : Dp c.K H v p := by
  rcases h with h | ⟨a, o, rfl, ha, ob⟩
  · exact h.dp vis_ex e
  · rcases ob with ⟨xs, ds, rfl, rfl, r⟩ | ⟨_, _, _, rfl, _⟩ | ⟨_, _, _, rfl, _⟩ | ⟨_, _, _, _, _, _, rfl, _⟩
    · simp only [toPy] at e
      cases q : toPys ds with
      | none =>
        rw [q] at e
        cases e
      | some ps =>
        rw [q] at e
        cases e
        exact .lst (.inl (.inl ha)) (r.dp vis_ex q)
    · cases e
    · cases e
    · cases e
end
def cmpD (d1 d2 : D) : Option Bool := match toPy d1 with
  | some p => (match toPy d2 with
    | some q => if SeqAt.shaped p = true ∧ SeqAt.shaped q = true then some (PyData.eqv p q) else none
    | none => none)
  | none => none
def eqD (d1 d2 : D) : Option RV := (cmpD d1 d2).map fun b => .sh (.bl b)
def neD (d1 d2 : D) : Option RV := (cmpD d1 d2).map fun b => .sh (.bl (!b))
theorem cmpD_some {d1 d2 : D} {b : Bool} (h : cmpD d1 d2 = some b) : ∃ p q, toPy d1 = some p ∧ toPy d2 = some q ∧ SeqAt.shaped p = true ∧ SeqAt.shaped q = true ∧ b = PyData.eqv p q := by
  unfold cmpD at h
  split at h
  · rename_i p e1
    split at h
    · rename_i q e2
      split at h
      · rename_i hs
        cases h
        exact ⟨p, q, e1, e2, hs.1, hs.2, rfl⟩
      · cases h
    · cases h
  · cases h
section
variable {X : Cx}
theorem opD_eq {k : Nat} (hr : Room k X.A) : OpR X (compareOp .Eq) (rP2 (ct X) eqD) := by
  intro pins s σ H x y v u Q I rx ry h
  obtain ⟨da, O, d1, d2, r, hO, h1, h2, eg, q⟩ := h
  cases e : cmpD d1 d2 with
  | none =>
    unfold eqD at eg
    rw [e] at eg
    cases eg
  | some b =>
    unfold eqD at eg
    rw [e] at eg
    cases eg
    obtain ⟨p, p', e1, e2, s1, s2, rfl⟩ := cmpD_some e
    exact op_eqD hr.units pins s σ H x y v u Q I rx ry ⟨p, p', h1.dp e1, h2.dp e2, s1, s2, q _ _ (Ex.refl _) (.bl _)⟩
theorem opD_ne {k : Nat} (hr : Room k X.A) : OpR X (compareOp .NotEq) (rP2 (ct X) neD) := by
  intro pins s σ H x y v u Q I rx ry h
  obtain ⟨da, O, d1, d2, r, hO, h1, h2, eg, q⟩ := h
  cases e : cmpD d1 d2 with
  | none =>
    unfold neD at eg
    rw [e] at eg
    cases eg
  | some b =>
    unfold neD at eg
    rw [e] at eg
    cases eg
    obtain ⟨p, p', e1, e2, s1, s2, rfl⟩ := cmpD_some e
    exact op_neD hr.units pins s σ H x y v u Q I rx ry ⟨p, p', h1.dp e1, h2.dp e2, s1, s2, q _ _ (Ex.refl _) (.bl _)⟩
def ordD (f : Int → Int → Bool) (g : Str → Str → Bool) : D → D → Option RV
  | .int i, .int j => some (.sh (.bl (f i j)))
  | .str x, .str y => some (.sh (.bl (g x y)))
  | _, _ => none
theorem opD_ord {op : CmpOp} {f : Int → Int → Bool} {g : Str → Str → Bool} (h1 : OpR X (compareOp op) (rI0 fun i j => .bl (f i j))) (h2 : OpR X (compareOp op) (fun x y H Q => ∃ i j, x = .str i ∧ y = .str j ∧ Q (.bl (g i j)) H)) : OpR X (compareOp op) (rP2 (ct X) (ordD f g)) := by
  intro pins s σ H x y v u Q I rx ry h
  obtain ⟨da, O, d1, d2, r, hO, p1, p2, eg, q⟩ := h
  unfold ordD at eg
  split at eg
  · cases eg
    exact h1 pins s σ H x y v u Q I rx ry ⟨_, _, p1.int, p2.int, q _ _ (Ex.refl _) (.bl _)⟩
  · cases eg
    exact h2 pins s σ H x y v u Q I rx ry ⟨_, _, p1.str, p2.str, q _ _ (Ex.refl _) (.bl _)⟩
  · cases eg
def ltS (x y : Str) : Bool := decide (x.cps.toList < y.cps.toList)
theorem opD_lt : OpR X (compareOp .Lt) (rP2 (ct X) (ordD (fun i j => decide (i < j)) ltS)) := opD_ord op_lt op_lt_str
/-- ints alone -/
def intD (f : Int → Int → Option RV) : D → D → Option RV
  | .int i, .int j => f i j
  | _, _ => none
theorem opD_int {opf : Value → Value → Sem Value} {C : Int → Int → Prop} {g : Int → Int → V} {f : Int → Int → Option RV} (h1 : OpR X opf (rI C g)) (hf : ∀ i j r, f i j = some r → C i j ∧ ∃ d, r = .sh d ∧ ∀ c da G, Rep c da G (g i j) d) : OpR X opf (rP2 (ct X) (intD f)) := by
  intro pins s σ H x y v u Q I rx ry h
  obtain ⟨da, O, d1, d2, r, hO, p1, p2, eg, q⟩ := h
  unfold intD at eg
  split at eg
  · obtain ⟨hc, d, rfl, rd⟩ := hf _ _ _ eg
    exact h1 pins s σ H x y v u Q I rx ry ⟨_, _, p1.int, p2.int, hc, q _ _ (Ex.refl _) (rd _ _ _)⟩
  · cases eg
theorem rI_of0 {opf : Value → Value → Sem Value} {g : Int → Int → V} (h : OpR X opf (rI0 g)) : OpR X opf (rI (fun _ _ => True) g) := by
  intro pins s σ H x y v u Q I rx ry ⟨i, j, h1, h2, _, q⟩
  exact h pins s σ H x y v u Q I rx ry ⟨i, j, h1, h2, q⟩
def i0 (f : Int → Int → D) (i j : Int) : Option RV := some (.sh (f i j))
theorem opD_gt : OpR X (compareOp .Gt) (rP2 (ct X) (intD (i0 fun i j => .bl (decide (j < i))))) := opD_int (rI_of0 op_gt) fun i j r e => by cases e; exact ⟨trivial, _, rfl, fun _ _ _ => .bl _⟩
theorem opD_ge : OpR X (compareOp .GtE) (rP2 (ct X) (intD (i0 fun i j => .bl (decide (j ≤ i))))) := opD_int (rI_of0 op_ge) fun i j r e => by cases e; exact ⟨trivial, _, rfl, fun _ _ _ => .bl _⟩
theorem opD_le : OpR X (compareOp .LtE) (rP2 (ct X) (intD (i0 fun i j => .bl (decide (i ≤ j))))) := opD_int (rI_of0 op_le) fun i j r e => by cases e; exact ⟨trivial, _, rfl, fun _ _ _ => .bl _⟩
theorem opD_sub : OpR X (binaryOp .Sub) (rP2 (ct X) (intD (i0 fun i j => .int (i - j)))) := opD_int (rI_of0 op_sub) fun i j r e => by cases e; exact ⟨trivial, _, rfl, fun _ _ _ => .int _⟩
def modI (i j : Int) : Option RV := if 0 < j then some (.sh (.int (i % j))) else none
theorem opD_mod : OpR X (binaryOp .Mod) (rP2 (ct X) (intD modI)) := opD_int op_mod fun i j r e => by
  unfold modI at e
  split at e
  · rename_i h
    cases e
    exact ⟨h, _, rfl, fun _ _ _ => .int _⟩
  · cases e
def fdivI (i j : Int) : Option RV := if 0 < j ∧ j.natAbs.log2 < 9000 then some (.sh (.int (i / j))) else none
theorem opD_fdiv : OpR X (binaryOp .FloorDiv) (rP2 (ct X) (intD fdivI)) := opD_int op_fdivW fun i j r e => by
  unfold fdivI at e
  split at e
  · rename_i h
    cases e
    exact ⟨h, _, rfl, fun _ _ _ => .int _⟩
  · cases e
/-- one sign in a text -/
def inS (no : Bool) : D → D → Option RV
  | .str x, .str y => match x.cps.toList with
    | [c] => some (.sh (.bl (if no then !decide (c ∈ y.cps.toList) else decide (c ∈ y.cps.toList))))
    | _ => none
  | _, _ => none
theorem sing_of {x : Str} {c : Nat} (h : x.cps.toList = [c]) : x = ⟨#[c]⟩ := by
  obtain ⟨a⟩ := x
  have e : a = #[c] := by
    apply Array.ext'
    rw [h]
  rw [e]
theorem opD_in : OpR X (compareOp .In) (rP2 (ct X) (inS false)) := by
  intro pins s σ H x y v u Q I rx ry h
  obtain ⟨da, O, d1, d2, r, hO, p1, p2, eg, q⟩ := h
  unfold inS at eg
  split at eg
  · split at eg
    · rename_i c e
      cases eg
      exact op_in_sign pins s σ H x y v u Q I rx ry ⟨c, _, by rw [p1.str, sing_of e], p2.str, q _ _ (Ex.refl _) (.bl _)⟩
    · cases eg
  · cases eg
theorem opD_notIn : OpR X (compareOp .NotIn) (rP2 (ct X) (inS true)) := by
  intro pins s σ H x y v u Q I rx ry h
  obtain ⟨da, O, d1, d2, r, hO, p1, p2, eg, q⟩ := h
  unfold inS at eg
  split at eg
  · split at eg
    · rename_i c e
      cases eg
      exact op_notIn_sign pins s σ H x y v u Q I rx ry ⟨c, _, by rw [p1.str, sing_of e], p2.str, q _ _ (Ex.refl _) (.bl _)⟩
    · cases eg
  · cases eg

/-! ### + -/
def addD : D → D → Option RV
  | .int i, .int j => some (.sh (.int (i + j)))
  | .str x, .str y => if x.length + y.length ≤ 1000000 then some (.sh (.str (x ++ y))) else none
  | .lst xs, .lst ys => if xs.length + ys.length ≤ 1000000 then some (.fr (.lst (xs ++ ys))) else none
  | .tup xs, .tup ys => if xs.length + ys.length ≤ 1000000 then some (.sh (.tup (xs ++ ys))) else none
  | _, _ => none
theorem repN_lst {c : Ct} {da : Option Addr} {O : List Addr} {H : Hp} {p : Addr} {xs : List V} {ds : List D} (np : H p = none) (r : RepAll c da (vis O H) xs ds) : RepN c da O H (upd H p (.lst xs)) (.fr (.lst ds)) (.ref p) := by
  refine ⟨p, _, rfl, np, upd_same, .inl ⟨xs, ds, rfl, rfl, r.mono fun b o h => ?_⟩⟩
  obtain ⟨n, h⟩ := vis_some h
  rw [vis_out fun z => ?_]
  · exact Ex.new np b o h
  · rcases List.mem_cons.mp z with z | z
    · exact ne_of_none h np z
    · exact n z
/-- a place of which nothing is known may be hidden: a new tuple is laid where H is free -/
theorem repN_tup {c : Ct} {da : Option Addr} {O : List Addr} {H : Hp} {p : Addr} {xs : List V} {ds : List D} (np : H p = none) (hO : ∀ a ∈ O, ∃ o, H a = some o ∧ NT o) (r : RepAll c da (vis O H) xs ds) : RepN c da O H (upd H p (.tup xs)) (.sh (.tup ds)) (.ref p) := by
  have n : p ∉ O := fun z => by
    obtain ⟨o, e, _⟩ := hO p z
    rw [np] at e
    cases e
  refine .tup ?_ (r.mono (vis_mono (Ex.new np)))
  rw [vis_out n]
  exact upd_same
theorem opD_add : OpR X (binaryOp .Add) (rP2 (ct X) addD) := by
  intro pins s σ H x y v u Q I rx ry h
  obtain ⟨da, O, d1, d2, r, hO, p1, p2, eg, q⟩ := h
  unfold addD at eg
  split at eg
  · cases eg
    exact op_add pins s σ H x y v u Q I rx ry ⟨_, _, p1.int, p2.int, q _ _ (Ex.refl _) (.int _)⟩
  · split at eg
    · rename_i hz
      cases eg
      exact op_add_str pins s σ H x y v u Q I rx ry ⟨_, _, p1.str, p2.str, small_fits hz, q _ _ (Ex.refl _) (.str _)⟩
    · cases eg
  · split at eg
    · rename_i hz
      cases eg
      obtain ⟨a, xs, rfl, ea, ra⟩ := p1.lst
      obtain ⟨b, ys, rfl, eb, rb⟩ := p2.lst
      exact op_cat pins s σ H _ _ v u Q I rx ry ⟨a, b, xs, ys, rfl, rfl, ea, eb, small_fits (by rw [ra.length, rb.length]; exact hz), fun p np => q _ _ (Ex.new np) (repN_lst np (ra.append rb))⟩
    · cases eg
  · split at eg
    · rename_i hz
      cases eg
      obtain ⟨a, xs, rfl, ea, ra, Ra⟩ := p1.tup
      obtain ⟨b, ys, rfl, eb, rb, Rb⟩ := p2.tup
      refine op_catA pins s σ H _ _ v u Q I rx ry ⟨a, b, xs, ys, rfl, rfl, ea, eb, small_fits (by rw [ra.length, rb.length]; exact hz), fun e => ?_, fun _ e => ?_, fun _ _ p np => q _ _ (Ex.new np) (repN_tup np hO (ra.append rb))⟩
      · subst e
        cases ra
        exact q _ _ (Ex.refl _) Rb
      · subst e
        cases rb
        rw [List.append_nil] at q
        exact q _ _ (Ex.refl _) Ra
    · cases eg
  · cases eg

/-! ### * -/
def repS (x : Str) (n : Nat) : Str := ⟨(List.replicate n x.cps.toList).flatten.toArray⟩
def mulD : D → D → Option RV
  | .int i, .int j => if i.natAbs.log2 + j.natAbs.log2 < 1000000 then some (.sh (.int (i * j))) else none
  | .str x, .int n => if n = 0 then some (.sh (.str Str.empty)) else if n = 1 then some (.sh (.str x)) else none
  | _, _ => none
theorem opD_mul : OpR X (binaryOp .Mult) (rP2 (ct X) mulD) := by
  intro pins s σ H x y v u Q I rx ry h
  obtain ⟨da, O, d1, d2, r, hO, p1, p2, eg, q⟩ := h
  unfold mulD at eg
  split at eg
  · split at eg
    · rename_i hc
      cases eg
      exact op_mulW pins s σ H x y v u Q I rx ry ⟨_, _, p1.int, p2.int, hc, q _ _ (Ex.refl _) (.int _)⟩
    · cases eg
  · rename_i x0 n
    have ex := p1.str
    have ey := p2.int
    subst ex
    subst ey
    obtain ⟨t, rfl⟩ := rx
    obtain ⟨t2, rfl⟩ := ry
    split at eg
    · rename_i hn
      cases eg
      subst hn
      exact PySem.P.mul_str_none (by decide) (by decide) ⟨.str Str.empty, H, I.tok _, ⟨_, rfl⟩, q _ _ (Ex.refl _) (.str _)⟩
    · split at eg
      · rename_i hn
        cases eg
        subst hn
        refine PySem.P.mul_str (by decide) (fun _ h => by simp at h) (fun _ h => by simp at h) ?_
        rw [if_neg (by decide), if_pos (by simp)]
        exact ⟨.str x0, H, I, ⟨_, rfl⟩, q _ _ (Ex.refl _) (.str _)⟩
      · cases eg
  · cases eg

/-! ### subscripts -/
def ixD : D → D → Option RV
  | .lst xs, .int i => (atI xs i).map .sh
  | .tup xs, .int i => (atI xs i).map .sh
  | .str z, .int i => if z.length ≤ 1000000 then (atI z.cps.toList i).map fun c => .sh (.str ⟨#[c]⟩) else none
  | _, _ => none
theorem RepAll.atI {c : Ct} {da : Option Addr} {G : Hp} {vs : List V} {ds : List D} {i : Int} {d : D} (r : RepAll c da G vs ds) (h : L2.atI ds i = some d) : ∃ v, L2.atI vs i = some v ∧ Rep c da G v d := by
  unfold L2.atI at h ⊢
  rw [r.length]
  cases e : ixN ds.length i with
  | none =>
    rw [e] at h
    cases h
  | some j =>
    rw [e] at h
    exact r.get h
theorem ixD_ok : IxR X (rP2 (ct X) ixD) := by
  intro value slice pins s σ H x y v u Q I rx ry h hs
  obtain ⟨da, O, d1, d2, r, hO, p1, p2, eg, q⟩ := h
  unfold ixD at eg
  split at eg
  · rename_i xs i
    cases e : L2.atI xs i with
    | none =>
      rw [e] at eg
      cases eg
    | some d =>
      rw [e] at eg
      cases eg
      obtain ⟨a, ys, rfl, ea, ra⟩ := p1.lst
      obtain ⟨z, hz, rz⟩ := ra.atI e
      exact ix_list value slice pins s σ H _ _ v u Q I rx ry ⟨a, ys, i, z, rfl, p2.int, .inl (.inl ea), hz, q _ _ (Ex.refl _) rz⟩ hs
  · rename_i xs i
    cases e : L2.atI xs i with
    | none =>
      rw [e] at eg
      cases eg
    | some d =>
      rw [e] at eg
      cases eg
      obtain ⟨a, ys, rfl, ea, ra, _⟩ := p1.tup
      obtain ⟨z, hz, rz⟩ := ra.atI e
      exact ix_tup value slice pins s σ H _ _ v u Q I rx ry ⟨a, ys, i, z, rfl, p2.int, ea, hz, q _ _ (Ex.refl _) rz⟩ hs
  · rename_i z i
    split at eg
    · rename_i hz
      cases e : L2.atI z.cps.toList i with
      | none =>
        rw [e] at eg
        cases eg
      | some d =>
        rw [e] at eg
        cases eg
        exact ix_str value slice pins s σ H _ _ v u Q I rx ry ⟨z, i, d, p1.str, p2.int, small_fits hz, e, q _ _ (Ex.refl _) (.str _)⟩ hs
    · cases eg
  · cases eg
end
end FD

end sec_FD10
section sec_ZP
set_option maxRecDepth 100000
set_option maxHeartbeats 5000000
/-! ZP: zip of two and of three, each a list, a tuple or a text. -/
namespace ZP
open PySem PySem.Spec PyProof.Rows L2

/-- what zip draws from -/
inductive Src where
  | lst (a : Addr) | tup (a : Addr) | txt (x : Str)
def Src.has (K : PySem.W.Frag) (H : Hp) : Src → List V → Prop
  | .lst a, xs => SqL K H a xs
  | .tup a, xs => SqT K H a xs
  | .txt x, xs => xs = x.cps.toList.map fun c => V.str ⟨#[c]⟩
def Src.at_ : Src → Addr → Nat → Heap → Prop
  | .lst a, it, i, h => h.IsListIter it a i
  | .tup a, it, i, h => h.IsTupleIter it a i
  | .txt x, it, i, h => ∃ t, h.IsStrIter it (strIterType x) x t i
def Src.far : Src → Addr → Prop
  | .lst a, b => a ≠ b
  | .tup a, b => a ≠ b
  | .txt _, _ => True
theorem Src.inj {X : Cx} {pins : List (Addr × Obj)} {σ : L2.St} {H : Hp} {s : Shared} (I : Inv X pins σ H s) : ∀ {r : Src} {xs ys : List V}, r.has X.K H xs → r.has X.K H ys → xs = ys
  | .lst _, _, _, h, k => I.list_inj h k
  | .tup _, _, _, h, k => I.tuple_inj h k
  | .txt _, _, _, h, k => h.trans k.symm
theorem noCell {h : Heap} {it : Addr} {o : Obj} {vs : Array Value} (e : h.get? it = some o) (d : o.data = .fields vs) : ∃ o, h.get? it = some o ∧ ∀ v, o.data ≠ .cell v := ⟨o, e, by simp [d]⟩
theorem Src.live {r : Src} {it : Addr} {i : Nat} {h : Heap} (q : r.at_ it i h) : ∃ o, h.get? it = some o ∧ ∀ v, o.data ≠ .cell v := by
  cases r with
  | lst a =>
    obtain ⟨_, e, _, d⟩ := q
    exact noCell e d
  | tup a =>
    obtain ⟨_, e, _, d⟩ := q
    exact noCell e d
  | txt x =>
    obtain ⟨_, _, e, _, d⟩ := q
    exact noCell e d
theorem Src.keep {r : Src} {it : Addr} {i : Nat} {h h' : Heap} (q : r.at_ it i h) (k : ∀ o, h.get? it = some o → h'.get? it = some o) : r.at_ it i h' := by
  cases r with
  | lst a => exact Heap.IsListIter.at q k
  | tup a => exact Heap.IsTupleIter.at q k
  | txt x =>
    obtain ⟨t, o, e, r⟩ := q
    exact ⟨t, o, k o e, r⟩
theorem vals_at : ∀ {xs : List V} {us : List Value}, Vals xs us → ∀ {j : Nat} {u : Value}, us[j]? = some u → ∃ x, xs[j]? = some x ∧ RelV x u
  | _, _, .nil, _, _, h => by simp at h
  | _, _, .cons r t, 0, _, h => ⟨_, rfl, by cases h; exact r⟩
  | _, _, .cons r t, j + 1, _, h => by
    obtain ⟨x, e, k⟩ := vals_at t (j := j) (by simpa using h)
    exact ⟨x, by simpa using e, k⟩
/-- such an iterator draws the items -/
theorem Src.draws {X : Cx} {pins : List (Addr × Obj)} {σ : L2.St} {H : Hp} {s : Shared} (hc : X.calm = true) (I : Inv X pins σ H s) {r : Src} {xs : List V} {it : Addr} {i : Nat} (hx : r.has X.K H xs) (q : r.at_ it i s.heap) (far : r.far it) :
    ∃ fp P St, Draws X.prog X.w X.A.in1 it fp xs.length P St ∧ St i s.heap ∧ it ∈ fp ∧ (∀ b, r.far b → b ≠ it → b ∉ fp) ∧ (∀ j v, P j v → ∃ x, xs[j]? = some x ∧ RelV x v) ∧ ∀ j h, St j h → r.at_ it j h := by
  cases r with
  | lst a =>
    obtain ⟨its, rv, p, _⟩ := I.list hx
    have hl := rv.length
    refine ⟨[it, a], fun i v => its.toArray[i]? = some v, fun i h => h.IsListIter it a i ∧ h.IsList a its.toArray, by rw [hl]; exact Draws.list (prog := X.prog) (w := X.w) (A := X.A.in1) (I.ok.hd hc) it a far its.toArray, (show _ ∧ _ from ⟨q, p.isList⟩), by simp, fun b fb nb => ?_, fun j v hv => ?_, fun j h st => st.1⟩
    · simp only [List.mem_cons, List.not_mem_nil, or_false]
      exact fun z => z.elim nb fun y => fb y.symm
    · exact vals_at rv (by simpa using hv)
  | tup a =>
    obtain ⟨its, rv, p, _⟩ := I.tuple hx
    have hl := rv.length
    refine ⟨[it, a], fun i v => its.toArray[i]? = some v, fun i h => h.IsTupleIter it a i ∧ h.IsTuple a its.toArray, by rw [hl]; exact Draws.tuple (prog := X.prog) (w := X.w) (A := X.A.in1) (I.ok.hd hc) it a far its.toArray, (show _ ∧ _ from ⟨q, p⟩), by simp, fun b fb nb => ?_, fun j v hv => ?_, fun j h st => st.1⟩
    · simp only [List.mem_cons, List.not_mem_nil, or_false]
      exact fun z => z.elim nb fun y => fb y.symm
    · exact vals_at rv (by simpa using hv)
  | txt x =>
    obtain ⟨t, q⟩ := q
    have hx : xs = x.cps.toList.map fun c => V.str ⟨#[c]⟩ := hx
    have hl : xs.length = x.cps.size := by rw [hx]; simp
    refine ⟨[it], _, _, by rw [hl]; exact Draws.text (prog := X.prog) (w := X.w) (A := X.A.in1) (I.ok.hd hc) it x t, q, by simp, fun b _ nb => by simpa using nb, fun j v hv => ?_, fun j h st => ⟨t, st⟩⟩
    obtain ⟨c, u, hcu, rfl⟩ := hv
    refine ⟨.str ⟨#[c]⟩, ?_, ⟨u, rfl⟩⟩
    rw [hx, List.getElem?_map]
    have : x.cps.toList[j]? = some c := by simpa using hcu
    rw [this]
    rfl
/-- zip of two at each turn -/
def Iz2 (K : PySem.W.Frag) (r1 r2 : Src) : It :=
  ⟨fun i H => ∃ (xs ys : List V) (x y : V), r1.has K H xs ∧ r2.has K H ys ∧ xs[i]? = some x ∧ ys[i]? = some y,
    fun i H v H' => ∃ T x y, v = .ref T ∧ H T = none ∧ H' = upd H T (.tup [x, y]) ∧ (∀ xs, r1.has K H xs → xs[i]? = some x) ∧ ∀ ys, r2.has K H ys → ys[i]? = some y,
    fun i H => ∃ xs ys : List V, r1.has K H xs ∧ r2.has K H ys ∧ i ≤ xs.length ∧ i ≤ ys.length ∧ (i = xs.length ∨ i = ys.length)⟩
/-- its cells lie apart -/
structure Ap2 (z TI TO i1 i2 : Addr) (r1 r2 : Src) : Prop where
  a1 : TI ≠ z
  a2 : TO ≠ z
  a3 : TI ≠ TO
  a4 : TI ≠ i1
  a5 : TI ≠ i2
  a6 : z ≠ i1
  a7 : z ≠ i2
  a8 : TO ≠ i1
  a9 : TO ≠ i2
  b1 : i1 ≠ i2
  f1 : r1.far z ∧ r1.far TO ∧ r1.far i1 ∧ r1.far i2
  f2 : r2.far z ∧ r2.far TO ∧ r2.far i1 ∧ r2.far i2
theorem Vgone {X : Cx} {pins : List (Addr × Obj)} {H : Hp} {c : Addr} {fp : List Addr} (hf : ∀ b ∈ fp, FpOk X pins H b) (h : c ∈ fp) : H c = none := (hf c h).1
theorem turn_zip2 {P : Program} {w : World} {K : PySem.W.Frag} {elts : List Expr} {kk : Nat} {tpos : Pos} {r1 r2 : Src} {z TI TO i1 i2 : Addr} (D : Ap2 z TI TO i1 i2 r1 r2) :
    Turn P w K (.Tuple elts kk tpos) (Iz2 K r1 r2) [z, TI, TO, i1, i2] z (fun i h => IsZip h z TI TO .none ∧ IsTupOf2 h TI (.ref i1) (.ref i2) ∧ (∃ x y, IsTupOf2 h TO x y) ∧ r1.at_ i1 i h ∧ r2.at_ i2 i h) where
  mem := by simp
  obj := by
    rintro i h ⟨hz, hTI, ⟨x, y, hTO⟩, h1, h2⟩ c hc
    simp only [List.mem_cons, List.not_mem_nil, or_false] at hc
    rcases hc with rfl | rfl | rfl | rfl | rfl
    · exact ⟨_, hz, fun v q => nomatch q⟩
    · exact ⟨_, hTI, fun v q => nomatch q⟩
    · exact ⟨_, hTO, fun v q => nomatch q⟩
    · exact Src.live h1
    · exact Src.live h2
  keep := by
    rintro i h h' ⟨hz, hTI, ⟨x, y, hTO⟩, h1, h2⟩ k
    exact ⟨k z (by simp) _ hz, k TI (by simp) _ hTI, ⟨x, y, k TO (by simp) _ hTO⟩, Src.keep h1 fun o q => k i1 (by simp) o q, Src.keep h2 fun o q => k i2 (by simp) o q⟩
  item := by
    rintro X rfl rfl rfl hc i pins s σ H E I hf ⟨hz, hTI, ⟨x0, y0, hTO⟩, h1, h2⟩ ⟨xs, ys, x, y, hqx, hqy, hx, hy⟩
    obtain ⟨fp1, P1, St1, D1, s1, m1, n1, v1, t1⟩ := Src.draws hc I hqx h1 D.f1.2.2.1
    obtain ⟨fp2, P2, St2, D2, s2, m2, n2, v2, t2⟩ := Src.draws hc I hqy h2 D.f2.2.2.2
    have S : ZipSep2 z TI TO i1 i2 fp1 fp2 := ⟨D.a1, D.a2, D.a3, D.a4, m1, n1 z D.f1.1 D.a6, n1 TO D.f1.2.1 D.a8, D.a5, m2, n2 z D.f2.1 D.a7, n2 TO D.f2.2.1 D.a9, n2 i1 D.f2.2.2.1 D.b1, n1 i2 D.f1.2.2.2 D.b1.symm⟩
    have zl : z < s.heap.objs.size := Heap.lt_size hz
    refine wpAny_pyNext_zipD2_item S D1 D2 hz hTI hTO s1 s2 (List.getElem?_eq_some_iff.mp hx).1 (List.getElem?_eq_some_iff.mp hy).1 fun u1 u2 h' tk p1 p2 z' TO' s1' s2' hT hsz hk => ?_
    obtain ⟨x', ex, ru1⟩ := v1 i u1 p1
    obtain ⟨y', ey, ru2⟩ := v2 i u2 p2
    rw [hx] at ex
    rw [hy] at ey
    cases ex
    cases ey
    refine ⟨_, rfl, wpAny_letOwnedTupleGo_zip (s := { s with heap := h', toks := tk }) z' fun h'' z'' sb => ?_⟩
    have hT2 : h''.get? s.heap.objs.size = some { cls := .type "tuple", data := .seq #[u1, u2] } := (sb.2 _ (Nat.ne_of_gt zl)).trans hT
    have new : ObjOk X.prog X.w (upd H s.heap.objs.size (.tup [x, y])) h'' s.heap.objs.size (.tup [x, y]) := ⟨by show 2 ≤ sizeLine; decide, [u1, u2], .cons ru1 (.cons ru2 .nil), ⟨_, hT2, rfl, _, rfl⟩⟩
    have I1 : Inv X pins σ (upd H s.heap.objs.size (.tup [x, y])) { s with heap := h'', toks := tk } :=
      I.turnedNew (ch := [z, TI, TO, i1, i2]) (fun c o hb q => by
        simp only [List.mem_cons, List.not_mem_nil, or_false, not_or] at hb
        exact (sb.2 c hb.1).trans (hk c o hb.1 hb.2.2.1 hb.2.2.2.1 hb.2.2.2.2 q)) hf (Nat.le_refl _) new
    refine ⟨.ref s.heap.objs.size, _, I1, rfl, ⟨_, x, y, rfl, I.hok.fresh (Nat.le_refl _), rfl, fun l hl => by rw [Src.inj I hl hqx]; exact hx, fun l hl => by rw [Src.inj I hl hqy]; exact hy⟩, ⟨z'', ?_, ⟨u1, u2, ?_⟩, ?_, ?_⟩, fun c hcm => ?_⟩
    · exact (sb.2 _ D.a1).trans (hk _ _ D.a1 D.a3 D.a4 D.a5 hTI)
    · exact (sb.2 _ D.a2).trans TO'
    · exact Src.keep (t1 _ _ s1') fun o q => (sb.2 _ D.a6.symm).trans q
    · exact Src.keep (t2 _ _ s2') fun o q => (sb.2 _ D.a7.symm).trans q
    · have below : c < s.heap.objs.size := by
        simp only [List.mem_cons, List.not_mem_nil, or_false] at hcm
        rcases hcm with rfl | rfl | rfl | rfl | rfl
        · exact zl
        · exact Heap.lt_size hTI
        · exact Heap.lt_size hTO
        · obtain ⟨_, e1, _⟩ := Src.live h1; exact Heap.lt_size e1
        · obtain ⟨_, e1, _⟩ := Src.live h2; exact Heap.lt_size e1
      exact (upd_ne (Nat.ne_of_lt below)).trans (Vgone hf hcm)
  done := by
    rintro X rfl rfl rfl hc i pins s σ H E I hf ⟨hz, hTI, ⟨x0, y0, hTO⟩, h1, h2⟩ ⟨xs, ys, hqx, hqy, l1, l2, hend⟩
    obtain ⟨fp1, P1, St1, D1, s1, m1, n1, v1, t1⟩ := Src.draws hc I hqx h1 D.f1.2.2.1
    obtain ⟨fp2, P2, St2, D2, s2, m2, n2, v2, t2⟩ := Src.draws hc I hqy h2 D.f2.2.2.2
    have S : ZipSep2 z TI TO i1 i2 fp1 fp2 := ⟨D.a1, D.a2, D.a3, D.a4, m1, n1 z D.f1.1 D.a6, n1 TO D.f1.2.1 D.a8, D.a5, m2, n2 z D.f2.1 D.a7, n2 TO D.f2.2.1 D.a9, n2 i1 D.f2.2.2.1 D.b1, n1 i2 D.f1.2.2.2 D.b1.symm⟩
    refine wpAny_pyNext_zipD2_end S D1 D2 hz hTI hTO s1 s2 l1 l2 hend fun h' tk hk => ⟨rfl, I.turnedL (ch := [z, TI, TO, i1, i2]) (fun c o hb q => ?_) hf⟩
    simp only [List.mem_cons, List.not_mem_nil, or_false, not_or] at hb
    exact hk c o hb.1 hb.2.2.1 hb.2.2.2.1 hb.2.2.2.2 q
  self := fun _ _ _ _ _ st => wpAny_pyIter_zip st.1
/-! ### zip of three -/
def Iz3 (K : PySem.W.Frag) (r1 r2 r3 : Src) : It :=
  ⟨fun i H => ∃ (xs ys zs : List V) (x y u : V), r1.has K H xs ∧ r2.has K H ys ∧ r3.has K H zs ∧ xs[i]? = some x ∧ ys[i]? = some y ∧ zs[i]? = some u,
    fun i H v H' => ∃ T x y u, v = .ref T ∧ H T = none ∧ H' = upd H T (.tup [x, y, u]) ∧ (∀ xs, r1.has K H xs → xs[i]? = some x) ∧ (∀ ys, r2.has K H ys → ys[i]? = some y) ∧ ∀ zs, r3.has K H zs → zs[i]? = some u,
    fun i H => ∃ xs ys zs : List V, r1.has K H xs ∧ r2.has K H ys ∧ r3.has K H zs ∧ i ≤ xs.length ∧ i ≤ ys.length ∧ i ≤ zs.length ∧ (i = xs.length ∨ i = ys.length ∨ i = zs.length)⟩
structure Ap3 (z TI TO i1 i2 i3 : Addr) (r1 r2 r3 : Src) : Prop where
  a1 : TI ≠ z
  a2 : TO ≠ z
  a3 : TI ≠ TO
  t1 : TI ≠ i1
  t2 : TI ≠ i2
  t3 : TI ≠ i3
  z1 : z ≠ i1
  z2 : z ≠ i2
  z3 : z ≠ i3
  o1 : TO ≠ i1
  o2 : TO ≠ i2
  o3 : TO ≠ i3
  b12 : i1 ≠ i2
  b13 : i1 ≠ i3
  b23 : i2 ≠ i3
  f1 : r1.far z ∧ r1.far TO ∧ r1.far i1 ∧ r1.far i2 ∧ r1.far i3
  f2 : r2.far z ∧ r2.far TO ∧ r2.far i1 ∧ r2.far i2 ∧ r2.far i3
  f3 : r3.far z ∧ r3.far TO ∧ r3.far i1 ∧ r3.far i2 ∧ r3.far i3
theorem turn_zip3 {P : Program} {w : World} {K : PySem.W.Frag} {elts : List Expr} {kk : Nat} {tpos : Pos} {r1 r2 r3 : Src} {z TI TO i1 i2 i3 : Addr} (D : Ap3 z TI TO i1 i2 i3 r1 r2 r3) :
    Turn P w K (.Tuple elts kk tpos) (Iz3 K r1 r2 r3) [z, TI, TO, i1, i2, i3] z (fun i h => IsZip h z TI TO .none ∧ IsTupOf3 h TI (.ref i1) (.ref i2) (.ref i3) ∧ (∃ x y u, IsTupOf3 h TO x y u) ∧ r1.at_ i1 i h ∧ r2.at_ i2 i h ∧ r3.at_ i3 i h) where
  mem := by simp
  obj := fun i h st c hc => by
    obtain ⟨hz, hTI, ⟨x, y, u, hTO⟩, h1, h2, h3⟩ := st
    simp only [List.mem_cons, List.not_mem_nil, or_false] at hc
    rcases hc with rfl | rfl | rfl | rfl | rfl | rfl
    · exact ⟨_, hz, fun v q => nomatch q⟩
    · exact ⟨_, hTI, fun v q => nomatch q⟩
    · exact ⟨_, hTO, fun v q => nomatch q⟩
    · exact Src.live h1
    · exact Src.live h2
    · exact Src.live h3
  keep := fun i h h' st k => by
    obtain ⟨hz, hTI, ⟨x, y, u, hTO⟩, h1, h2, h3⟩ := st
    exact ⟨k z (by simp) _ hz, k TI (by simp) _ hTI, ⟨x, y, u, k TO (by simp) _ hTO⟩, Src.keep h1 fun o q => k i1 (by simp) o q, Src.keep h2 fun o q => k i2 (by simp) o q, Src.keep h3 fun o q => k i3 (by simp) o q⟩
  item := by
    rintro X rfl rfl rfl hc i pins s σ H E I hf ⟨hz, hTI, ⟨x0, y0, u0, hTO⟩, h1, h2, h3⟩ ⟨xs, ys, zs, x, y, u, hqx, hqy, hqz, hx, hy, hu⟩
    obtain ⟨fp1, P1, St1, D1, s1, m1, n1, v1, t1⟩ := Src.draws hc I hqx h1 D.f1.2.2.1
    obtain ⟨fp2, P2, St2, D2, s2, m2, n2, v2, t2⟩ := Src.draws hc I hqy h2 D.f2.2.2.2.1
    obtain ⟨fp3, P3, St3, D3, s3, m3, n3, v3, t3⟩ := Src.draws hc I hqz h3 D.f3.2.2.2.2
    have S : ZipSep3 z TI TO i1 i2 i3 fp1 fp2 fp3 := { TIz := D.a1, TOz := D.a2, TITO := D.a3, TIi1 := D.t1, mem1 := m1, zf1 := n1 z D.f1.1 D.z1, Tf1 := n1 TO D.f1.2.1 D.o1, TIi2 := D.t2, mem2 := m2, zf2 := n2 z D.f2.1 D.z2, Tf2 := n2 TO D.f2.2.1 D.o2, TIi3 := D.t3, mem3 := m3, zf3 := n3 z D.f3.1 D.z3, Tf3 := n3 TO D.f3.2.1 D.o3, sep1_2 := n2 i1 D.f2.2.2.1 D.b12, sep2_1 := n1 i2 D.f1.2.2.2.1 D.b12.symm, sep1_3 := n3 i1 D.f3.2.2.1 D.b13, sep3_1 := n1 i3 D.f1.2.2.2.2 D.b13.symm, sep2_3 := n3 i2 D.f3.2.2.2.1 D.b23, sep3_2 := n2 i3 D.f2.2.2.2.2 D.b23.symm }
    have zl : z < s.heap.objs.size := Heap.lt_size hz
    refine wpAny_pyNext_zipD3_item S D1 D2 D3 hz hTI hTO s1 s2 s3 (List.getElem?_eq_some_iff.mp hx).1 (List.getElem?_eq_some_iff.mp hy).1 (List.getElem?_eq_some_iff.mp hu).1 fun u1 u2 u3 h' tk p1 p2 p3 z' TO' s1' s2' s3' hT hsz hk => ?_
    obtain ⟨x', ex, ru1⟩ := v1 i u1 p1
    obtain ⟨y', ey, ru2⟩ := v2 i u2 p2
    obtain ⟨w', ew, ru3⟩ := v3 i u3 p3
    rw [hx] at ex
    rw [hy] at ey
    rw [hu] at ew
    cases ex
    cases ey
    cases ew
    refine ⟨_, rfl, wpAny_letOwnedTupleGo_zip (s := { s with heap := h', toks := tk }) z' fun h'' z'' sb => ?_⟩
    have hT2 : h''.get? s.heap.objs.size = some { cls := .type "tuple", data := .seq #[u1, u2, u3] } := (sb.2 _ (Nat.ne_of_gt zl)).trans hT
    have new : ObjOk X.prog X.w (upd H s.heap.objs.size (.tup [x, y, u])) h'' s.heap.objs.size (.tup [x, y, u]) := ⟨by show 3 ≤ sizeLine; decide, [u1, u2, u3], .cons ru1 (.cons ru2 (.cons ru3 .nil)), ⟨_, hT2, rfl, _, rfl⟩⟩
    have I1 : Inv X pins σ (upd H s.heap.objs.size (.tup [x, y, u])) { s with heap := h'', toks := tk } :=
      I.turnedNew (ch := [z, TI, TO, i1, i2, i3]) (fun c o hb q => by
        simp only [List.mem_cons, List.not_mem_nil, or_false, not_or] at hb
        exact (sb.2 c hb.1).trans (hk c o hb.1 hb.2.2.1 hb.2.2.2.1 hb.2.2.2.2.1 hb.2.2.2.2.2 q)) hf (Nat.le_refl _) new
    refine ⟨.ref s.heap.objs.size, _, I1, rfl, ⟨_, x, y, u, rfl, I.hok.fresh (Nat.le_refl _), rfl, fun l hl => by rw [Src.inj I hl hqx]; exact hx, fun l hl => by rw [Src.inj I hl hqy]; exact hy, fun l hl => by rw [Src.inj I hl hqz]; exact hu⟩, ⟨z'', ?_, ⟨u1, u2, u3, ?_⟩, ?_, ?_, ?_⟩, fun c hcm => ?_⟩
    · exact (sb.2 _ D.a1).trans (hk _ _ D.a1 D.a3 D.t1 D.t2 D.t3 hTI)
    · exact (sb.2 _ D.a2).trans TO'
    · exact Src.keep (t1 _ _ s1') fun o q => (sb.2 _ D.z1.symm).trans q
    · exact Src.keep (t2 _ _ s2') fun o q => (sb.2 _ D.z2.symm).trans q
    · exact Src.keep (t3 _ _ s3') fun o q => (sb.2 _ D.z3.symm).trans q
    · have below : c < s.heap.objs.size := by
        simp only [List.mem_cons, List.not_mem_nil, or_false] at hcm
        rcases hcm with rfl | rfl | rfl | rfl | rfl | rfl
        · exact zl
        · exact Heap.lt_size hTI
        · exact Heap.lt_size hTO
        · obtain ⟨_, e1, _⟩ := Src.live h1; exact Heap.lt_size e1
        · obtain ⟨_, e1, _⟩ := Src.live h2; exact Heap.lt_size e1
        · obtain ⟨_, e1, _⟩ := Src.live h3; exact Heap.lt_size e1
      exact (upd_ne (Nat.ne_of_lt below)).trans (Vgone hf hcm)
  done := by
    rintro X rfl rfl rfl hc i pins s σ H E I hf ⟨hz, hTI, ⟨x0, y0, u0, hTO⟩, h1, h2, h3⟩ ⟨xs, ys, zs, hqx, hqy, hqz, l1, l2, l3, hend⟩
    obtain ⟨fp1, P1, St1, D1, s1, m1, n1, v1, t1⟩ := Src.draws hc I hqx h1 D.f1.2.2.1
    obtain ⟨fp2, P2, St2, D2, s2, m2, n2, v2, t2⟩ := Src.draws hc I hqy h2 D.f2.2.2.2.1
    obtain ⟨fp3, P3, St3, D3, s3, m3, n3, v3, t3⟩ := Src.draws hc I hqz h3 D.f3.2.2.2.2
    have S : ZipSep3 z TI TO i1 i2 i3 fp1 fp2 fp3 := { TIz := D.a1, TOz := D.a2, TITO := D.a3, TIi1 := D.t1, mem1 := m1, zf1 := n1 z D.f1.1 D.z1, Tf1 := n1 TO D.f1.2.1 D.o1, TIi2 := D.t2, mem2 := m2, zf2 := n2 z D.f2.1 D.z2, Tf2 := n2 TO D.f2.2.1 D.o2, TIi3 := D.t3, mem3 := m3, zf3 := n3 z D.f3.1 D.z3, Tf3 := n3 TO D.f3.2.1 D.o3, sep1_2 := n2 i1 D.f2.2.2.1 D.b12, sep2_1 := n1 i2 D.f1.2.2.2.1 D.b12.symm, sep1_3 := n3 i1 D.f3.2.2.1 D.b13, sep3_1 := n1 i3 D.f1.2.2.2.2 D.b13.symm, sep2_3 := n3 i2 D.f3.2.2.2.1 D.b23, sep3_2 := n2 i3 D.f2.2.2.2.2 D.b23.symm }
    refine wpAny_pyNext_zipD3_end S D1 D2 D3 hz hTI hTO s1 s2 s3 l1 l2 l3 hend fun h' tk hk => ⟨rfl, I.turnedL (ch := [z, TI, TO, i1, i2, i3]) (fun c o hb q => ?_) hf⟩
    simp only [List.mem_cons, List.not_mem_nil, or_false, not_or] at hb
    exact hk c o hb.1 hb.2.2.1 hb.2.2.2.1 hb.2.2.2.2.1 hb.2.2.2.2.2 q
  self := fun _ _ _ _ _ st => wpAny_pyIter_zip st.1
/-! ### how they begin -/
def Src.of : Src → V → Prop
  | .lst a, v => v = .ref a
  | .tup a, v => v = .ref a
  | .txt x, v => v = .str x
theorem Src.begins {X : Cx} {pins : List (Addr × Obj)} {σ : L2.St} {H : Hp} {s : Shared} (I : Inv X pins σ H s) {r : Src} {xs : List V} {v : V} {u : Value} (hv : r.of v) (hx : r.has X.K H xs) (ru : RelV v u) :
    ∃ (o : Obj) (T : Heap → Prop), Begins u o T ∧ T s.heap ∧ (∀ b, s.heap.objs.size ≤ b → r.far b) ∧ ∀ it h, h.get? it = some o → r.at_ it 0 h := by
  cases r with
  | lst a =>
    have hv : v = .ref a := hv
    subst hv
    cases ru
    obtain ⟨its, rv, p, _⟩ := I.list hx
    exact ⟨_, _, begins_list a its.toArray, p.isList, fun b hb z => Nat.lt_irrefl _ (Nat.lt_of_lt_of_le (z ▸ p.lt) hb), fun it h e => ⟨_, e, rfl, rfl⟩⟩
  | tup a =>
    have hv : v = .ref a := hv
    subst hv
    cases ru
    obtain ⟨its, rv, p, _⟩ := I.tuple hx
    obtain ⟨o, ho, _⟩ := id p
    have := Heap.lt_size ho
    exact ⟨_, _, begins_tuple a its.toArray, p, fun b hb z => Nat.lt_irrefl _ (Nat.lt_of_lt_of_le (z ▸ this) hb), fun it h e => ⟨_, e, rfl, rfl⟩⟩
  | txt x =>
    have hv : v = .str x := hv
    subst hv
    obtain ⟨t, rfl⟩ := ru
    exact ⟨_, _, begins_text x t, trivial, fun b hb => trivial, fun it h e => ⟨t, _, e, rfl, rfl⟩⟩
theorem nne {n i j : Nat} (h : i ≠ j) : n + i ≠ n + j := by omega
theorem ne0 {n i : Nat} (h : i ≠ 0) : n + i ≠ n := by omega
theorem en0 {n i : Nat} (h : i ≠ 0) : n ≠ n + i := by omega
def iZip2 (K : PySem.W.Frag) (ta : TA) : TI := fun σ H R => ta σ H fun vs H1 => ∃ v1 v2 r1 r2 xs ys, vs = [v1, v2] ∧ Src.of r1 v1 ∧ Src.of r2 v2 ∧ r1.has K H1 xs ∧ r2.has K H1 ys ∧ R (Iz2 K r1 r2) H1
theorem pi_zip2 {X : Cx} {e e2 : Expr} {ta : TA} {p pos tpos : Pos} {elts : List Expr} {kk : Nat} (hg : Gl X "zip") (hm : X.mg "zip" = none) (ha : PA X [e, e2] ta)
    (hs : starEach [e, e2] X.env = (false, eval e X.env) :: starEach [e2] X.env := by rfl)
    (hpl : (backTo pos (starEach [e2] X.env)).any (·.1) = false := by rfl) : PI X (.Tuple elts kk tpos) (.Call (.Name "zip" p) [e, e2] [] pos) (iZip2 X.K ta) := ⟨fun pins s σ H R I h => by
  refine Call_ (ld_blt I hg hm PyProof.Rows.boot_zip ?_)
  refine PyProof.Rows.callWith_type1 (thn (ha.run pos pins s σ H _ I h) ?_) hs hpl
  rintro us s1 ⟨vs, H1, I1, r1, q1⟩
  obtain ⟨v1, v2, s1', s2', xs, ys, rfl, o1, o2, x1, x2, q⟩ := q1
  cases r1 with
  | cons ra rr =>
    cases rr with
    | cons rb rr =>
      cases rr
      obtain ⟨ob1, T1, B1, t1, f1, g1⟩ := Src.begins I1 o1 x1 ra
      obtain ⟨ob2, T2, B2, t2, f2, g2⟩ := Src.begins I1 o2 x2 rb
      refine zip_begins2 B1 B2 t1 t2 fun h' hz hTI hTO h1 h2 hsz hk => wpAny_pyIter_zip hz ?_
      have I2 := I1.kept (t' := s1.toks) hk
      generalize hn : s1.heap.objs.size = n at *
      refine ⟨n + 4, [n + 4, n + 2, n + 3, n, n + 1], _, _, H1, rfl, I2, turn_zip2 (r1 := s1') (r2 := s2') ⟨nne (by decide), nne (by decide), nne (by decide), ne0 (by decide), nne (by decide), ne0 (by decide), nne (by decide), ne0 (by decide), nne (by decide), en0 (by decide), ⟨f1 _ (by first | exact Nat.le_add_right _ _ | exact Nat.le_refl _), f1 _ (by first | exact Nat.le_add_right _ _ | exact Nat.le_refl _), f1 _ (by first | exact Nat.le_add_right _ _ | exact Nat.le_refl _), f1 _ (by first | exact Nat.le_add_right _ _ | exact Nat.le_refl _)⟩, ⟨f2 _ (by first | exact Nat.le_add_right _ _ | exact Nat.le_refl _), f2 _ (by first | exact Nat.le_add_right _ _ | exact Nat.le_refl _), f2 _ (by first | exact Nat.le_add_right _ _ | exact Nat.le_refl _), f2 _ (by first | exact Nat.le_add_right _ _ | exact Nat.le_refl _)⟩⟩, ⟨hz, hTI, ⟨_, _, hTO⟩, g1 _ _ h1, g2 _ _ h2⟩, fun c hcm => ?_, q⟩
      have hle : n ≤ c := by
        simp only [List.mem_cons, List.not_mem_nil, or_false] at hcm
        rcases hcm with rfl | rfl | rfl | rfl | rfl <;> first | exact Nat.le_add_right _ _ | exact Nat.le_refl _
      exact I1.fpOk (hn ▸ hle) (I1.hok.fresh (hn ▸ hle))⟩
def iZip3 (K : PySem.W.Frag) (ta : TA) : TI := fun σ H R => ta σ H fun vs H1 => ∃ v1 v2 v3 r1 r2 r3 xs ys zs, vs = [v1, v2, v3] ∧ Src.of r1 v1 ∧ Src.of r2 v2 ∧ Src.of r3 v3 ∧ r1.has K H1 xs ∧ r2.has K H1 ys ∧ r3.has K H1 zs ∧ R (Iz3 K r1 r2 r3) H1
theorem pi_zip3 {X : Cx} {e e2 e3 : Expr} {ta : TA} {p pos tpos : Pos} {elts : List Expr} {kk : Nat} (hg : Gl X "zip") (hm : X.mg "zip" = none) (ha : PA X [e, e2, e3] ta)
    (hs : starEach [e, e2, e3] X.env = (false, eval e X.env) :: starEach [e2, e3] X.env := by rfl) (hpl : (backTo pos (starEach [e2, e3] X.env)).any (·.1) = false := by rfl) :
    PI X (.Tuple elts kk tpos) (.Call (.Name "zip" p) [e, e2, e3] [] pos) (iZip3 X.K ta) := ⟨fun pins s σ H R I h => by
  refine Call_ (ld_blt I hg hm PyProof.Rows.boot_zip ?_)
  refine PyProof.Rows.callWith_type1 (thn (ha.run pos pins s σ H _ I h) ?_) hs hpl
  rintro us s1 ⟨vs, H1, I1, r1, q1⟩
  obtain ⟨v1, v2, v3, s1', s2', s3', xs, ys, zs, rfl, o1, o2, o3, x1, x2, x3, q⟩ := q1
  cases r1 with
  | cons ra rr =>
    cases rr with
    | cons rb rr =>
      cases rr with
      | cons rc rr =>
        cases rr
        obtain ⟨ob1, T1, B1, t1, f1, g1⟩ := Src.begins I1 o1 x1 ra
        obtain ⟨ob2, T2, B2, t2, f2, g2⟩ := Src.begins I1 o2 x2 rb
        obtain ⟨ob3, T3, B3, t3, f3, g3⟩ := Src.begins I1 o3 x3 rc
        refine zip_begins3 B1 B2 B3 t1 t2 t3 fun h' hz hTI hTO h1 h2 h3 hsz hk => wpAny_pyIter_zip hz ?_
        have I2 := I1.kept (t' := s1.toks) hk
        generalize hn : s1.heap.objs.size = n at *
        refine ⟨n + 5, [n + 5, n + 3, n + 4, n, n + 1, n + 2], _, _, H1, rfl, I2, turn_zip3 (r1 := s1') (r2 := s2') (r3 := s3') ⟨nne (by decide), nne (by decide), nne (by decide), ne0 (by decide), nne (by decide), nne (by decide), ne0 (by decide), nne (by decide), nne (by decide), ne0 (by decide), nne (by decide), nne (by decide), en0 (by decide), en0 (by decide), nne (by decide), ⟨f1 _ (by first | exact Nat.le_add_right _ _ | exact Nat.le_refl _), f1 _ (by first | exact Nat.le_add_right _ _ | exact Nat.le_refl _), f1 _ (by first | exact Nat.le_add_right _ _ | exact Nat.le_refl _), f1 _ (by first | exact Nat.le_add_right _ _ | exact Nat.le_refl _), f1 _ (by first | exact Nat.le_add_right _ _ | exact Nat.le_refl _)⟩, ⟨f2 _ (by first | exact Nat.le_add_right _ _ | exact Nat.le_refl _), f2 _ (by first | exact Nat.le_add_right _ _ | exact Nat.le_refl _), f2 _ (by first | exact Nat.le_add_right _ _ | exact Nat.le_refl _), f2 _ (by first | exact Nat.le_add_right _ _ | exact Nat.le_refl _), f2 _ (by first | exact Nat.le_add_right _ _ | exact Nat.le_refl _)⟩, ⟨f3 _ (by first | exact Nat.le_add_right _ _ | exact Nat.le_refl _), f3 _ (by first | exact Nat.le_add_right _ _ | exact Nat.le_refl _), f3 _ (by first | exact Nat.le_add_right _ _ | exact Nat.le_refl _), f3 _ (by first | exact Nat.le_add_right _ _ | exact Nat.le_refl _), f3 _ (by first | exact Nat.le_add_right _ _ | exact Nat.le_refl _)⟩⟩, ⟨hz, hTI, ⟨_, _, _, hTO⟩, g1 _ _ h1, g2 _ _ h2, g3 _ _ h3⟩, fun c hcm => ?_, q⟩
        have hle : n ≤ c := by
          simp only [List.mem_cons, List.not_mem_nil, or_false] at hcm
          rcases hcm with rfl | rfl | rfl | rfl | rfl | rfl <;> first | exact Nat.le_add_right _ _ | exact Nat.le_refl _
        exact I1.fpOk (hn ▸ hle) (I1.hok.fresh (hn ▸ hle))⟩
end ZP

end sec_ZP
section sec_EN
set_option maxRecDepth 100000
set_option maxHeartbeats 5000000
/-! EN: enumerate of any source of ZP. -/
namespace EN
open PySem PySem.Spec PyProof.Rows L2
open ZP (Src)
theorem mem_two {a b c : Addr} (h : c ∈ [a, b]) : c = a ∨ c = b := by simpa using h
/-- the counter as enumerate makes it, its iterator at n -/
abbrev numO (n : Addr) : Obj := { cls := .type "enumerate", data := .fields #[.none, .bool false, .ref n, rawInt 0, .none, .none] }
def newSpec (o : Obj) (T : Heap → Prop) : PySem.Spec := fun _ R s => T s.heap ∧ R (.ok (.ret (.ref (s.heap.push o).objs.size))) { s with heap := (s.heap.push o).push (numO s.heap.objs.size) }
theorem new_meets {v : Value} {o : Obj} {T : Heap → Prop} (B : Begins v o T) : Meets (Builtin.«enumerate.__new__» ⟨[.type "enumerate", v], []⟩) (newSpec o T) := .of_wp fun P w A R s hs => by
  rcases s with ⟨h, g, d, k, os⟩
  rcases hs with ⟨ready, out⟩
  have sub := sub_enumerate
  have it : ∀ {B' : Around} {E : Value → Shared → Prop} {Q : Value → Shared → Prop}, Q (.ref h.objs.size) ⟨h.push o, g, d, k, os⟩ → wpAny (model P w) B' (pyIter v) Q E ⟨h, g, d, k, os⟩ := B.iter P w _ _ ⟨h, g, d, k, os⟩ _ ready
  wp_walk using it
  apply wpAny_stack_any
  intro st
  apply wpAny_pure
  split
  next c _ _ _ _ _ =>
    cases hc : (c == Value.type "enumerate") <;> (wp_walk using it) <;> exact ⟨_, rfl, out⟩
  next => (wp_walk using it) <;> exact ⟨_, rfl, out⟩
/-- what stands there behind enumerate(v) -/
structure Made (h0 h : Heap) (o : Obj) : Prop where
  num : IsEnum h (h0.objs.size + 1) h0.objs.size 0 .none
  it : h.get? h0.objs.size = some o
  old : ∀ b u, h0.get? b = some u → h.get? b = some u
theorem make {P : Program} {w : World} {A : Around} {E : Value → Shared → Prop} {s : Shared} {v : Value} {o : Obj} {T : Heap → Prop} {Q : Value → Shared → Prop} (B : Begins v o T) (ready : T s.heap)
    (go : ∀ h, Made s.heap h o → Q (.ref (s.heap.objs.size + 1)) { s with heap := h }) : wpAny (model P w) A (call (.type "enumerate") [v]) Q E s := by
  apply callType_new PySem.F.called_enumerate (by decide) (PySem.F.typeCall_enumerate_1 _) (PySem.F.newCall_enumerate_1 _) (fun u => PySem.F.args_object_init_2 u _) PySem.F.entry_enumerate_new (new_meets B)
  refine ⟨ready, ?_⟩
  have sz := Heap.size_push s.heap o
  have top := Heap.get?_push_size (s.heap.push o) (o := numO s.heap.objs.size) rfl
  simp only [sz] at top ⊢
  exact ⟨⟨_, top, rfl⟩, go _ ⟨top, Heap.get?_push_of_some _ (Heap.get?_push_size _ B.free), fun b u e => Heap.get?_push_of_some _ (Heap.get?_push_of_some _ e)⟩⟩
/-- number and item at each turn -/
def Ien (K : PySem.W.Frag) (r : Src) : It where
  go := fun i H => ∃ (xs : List V) (x : V), r.has K H xs ∧ xs[i]? = some x
  yld := fun i H v H2 => ∃ T x, v = .ref T ∧ H T = none ∧ H2 = upd H T (.tup [.int (i : Nat), x]) ∧ ∀ xs, r.has K H xs → xs[i]? = some x
  stop := fun i H => ∃ xs : List V, r.has K H xs ∧ xs.length = i
theorem turn {P : Program} {w : World} {K : PySem.W.Frag} {elts : List Expr} {kk : Nat} {tpos : Pos} {r : Src} {n it : Addr} (ne : n ≠ it) (fn : r.far n) (fi : r.far it) :
    Turn P w K (.Tuple elts kk tpos) (Ien K r) [n, it] n (fun i h => (∃ last, IsEnum h n it ((i : Nat) : Int) last) ∧ r.at_ it i h) where
  mem := List.mem_cons_self
  obj := by
    rintro i h ⟨⟨last, hn⟩, hi⟩ b hb
    rcases mem_two hb with rfl | rfl
    · exact ⟨_, hn, by intro v q; cases q⟩
    · exact Src.live hi
  keep := by
    rintro i h h2 ⟨⟨last, hn⟩, hi⟩ k
    exact ⟨⟨last, k n (by simp) _ hn⟩, Src.keep hi (k it (by simp))⟩
  item := by
    rintro X rfl rfl rfl calm i pins s σ H E I hf ⟨⟨last, hn⟩, hi⟩ ⟨xs, x, hx, at_⟩
    obtain ⟨fp, Pd, St, D, st, mem, off, val, back⟩ := Src.draws calm I hx hi fi
    have ln : n < s.heap.objs.size := Heap.lt_size hn
    apply wpAny_pyNext_enum_itemD D hn st (List.getElem?_eq_some_iff.mp at_).1 ne (off n fn ne)
    intro u h1 k pu out st1 pair _ kept
    obtain ⟨x2, at2, ru⟩ := val i u pu
    obtain rfl : x = x2 := Option.some.inj (at_.symm.trans at2)
    refine ⟨_, rfl, wpAny_letOwnedTupleGo_enum (s := { s with heap := h1, toks := k + 1 }) out fun h2 hn2 sb => ?_⟩
    have fresh := I.hok.fresh (Nat.le_refl s.heap.objs.size)
    have made : ObjOk X.prog X.w (upd H s.heap.objs.size (.tup [.int (i : Nat), x])) h2 s.heap.objs.size (.tup [.int (i : Nat), x]) :=
      ⟨(by decide : 2 ≤ sizeLine), [.int i k, u], .cons ⟨k, rfl⟩ (.cons ru .nil), ⟨_, (sb.2 _ (Nat.ne_of_gt ln)).trans pair, rfl, _, rfl⟩⟩
    have I2 := I.turnedNew (ch := [n, it]) (t' := k + 1) (fun b o nb e => by
      have nb : b ≠ n ∧ b ≠ it := by simpa using nb
      exact (sb.2 b nb.1).trans (kept b o nb.1 nb.2 e)) hf (Nat.le_refl _) made
    refine ⟨.ref s.heap.objs.size, _, I2, rfl, ⟨_, x, rfl, fresh, rfl, ?_⟩, ⟨⟨u, hn2⟩, Src.keep (back _ _ st1) fun o e => (sb.2 it (Ne.symm ne)).trans e⟩, ?_⟩
    · intro ys hy
      rw [Src.inj I hy hx]
      exact at_
    · intro b hb
      have lb : b < s.heap.objs.size := by
        rcases mem_two hb with rfl | rfl
        · exact ln
        · obtain ⟨_, e, _⟩ := Src.live hi
          exact Heap.lt_size e
      exact (upd_ne (Nat.ne_of_lt lb)).trans (hf b hb).1
  done := by
    rintro X rfl rfl rfl calm i pins s σ H E I hf ⟨⟨last, hn⟩, hi⟩ ⟨xs, hx, rfl⟩
    obtain ⟨fp, Pd, St, D, st, _⟩ := Src.draws calm I hx hi fi
    apply wpAny_pyNext_enum_endD D hn st
    intro h1 ext
    exact ⟨rfl, I.turnedL (t' := s.toks) (ch := [n, it]) (fun b o nb e => ext b o (by intro z; exact nb (by simp [z])) e) hf⟩
  self := by
    rintro A i s Q E ⟨⟨_, hn⟩, _⟩ go
    exact wpAny_pyIter_enum hn go
def iEn (K : PySem.W.Frag) (ta : TE) : TI := fun σ H R => ta σ H fun v H1 => ∃ r xs, Src.of r v ∧ r.has K H1 xs ∧ R (Ien K r) H1
theorem pi_en {X : Cx} {e : Expr} {ta : TE} {p pos tpos : Pos} {elts : List Expr} {kk : Nat} (glob : Gl X "enumerate") (own : X.mg "enumerate" = none) (ha : PE X e ta) (ns : starEach [e] X.env = (false, eval e X.env) :: starEach [] X.env := by rfl) :
    PI X (.Tuple elts kk tpos) (.Call (.Name "enumerate" p) [e] [] pos) (iEn X.K ta) where
  run := by
    intro pins s σ H R I pre
    refine Call_ (ld_blt I glob own boot_enumerate ?_)
    refine PyProof.Rows.callWith_type1 (PyProof.Rows.args_cons (thn (ha.run pins s σ H _ I pre) ?_) ns) ns rfl
    rintro u s1 ⟨v, H1, I1, rv, r, xs, isr, has, post⟩
    refine PyProof.Rows.args_nil ?_
    obtain ⟨o, T, B, ready, far, start⟩ := Src.begins I1 isr has rv
    apply make B ready
    intro h m
    refine wpAny_pyIter_enum m.num ⟨s1.heap.objs.size + 1, [s1.heap.objs.size + 1, s1.heap.objs.size], _, _, H1, rfl, I1.kept (t' := s1.toks) m.old, turn (r := r) (Nat.succ_ne_self _) (far _ (Nat.le_succ _)) (far _ (Nat.le_refl _)), ⟨⟨.none, m.num⟩, start _ _ m.it⟩, ?_, post⟩
    intro b hb
    have : s1.heap.objs.size ≤ b := by
      rcases mem_two hb with rfl | rfl
      · exact Nat.le_succ _
      · exact Nat.le_refl _
    exact I1.fpOk this (I1.hok.fresh this)
end EN

end sec_EN
section sec_FD11
set_option maxRecDepth 100000
set_option maxHeartbeats 5000000
/-! FD11: built-in functions, slices, own ==, lists that a slot owns, enumerate, displays. -/
namespace FD
open PySem L2
variable [Tabl]
section
variable {X : Cx}
/-! ### built-in functions -/
def lenD : List D → Option RV
  | [.lst xs] => some (.sh (.int xs.length))
  | [.tup xs] => some (.sh (.int xs.length))
  | [.ktup xs] => some (.sh (.int xs.length))
  | [.str z] => if z.length ≤ 1000000 then some (.sh (.int z.length)) else none
  | [.scr ns] => some (.sh (.int ns.length))
  | _ => none
theorem AllP.one {c : Ct} {da : Option Addr} {O : List Addr} {H : Hp} {vs : List V} {d : D} (h : AllP c da O H vs [d]) : ∃ v, vs = [v] ∧ RepP c da O H v d := by
  cases h with
  | cons a b =>
    cases b
    exact ⟨_, rfl, a⟩
theorem AllP.two {c : Ct} {da : Option Addr} {O : List Addr} {H : Hp} {vs : List V} {d e : D} (h : AllP c da O H vs [d, e]) : ∃ v u, vs = [v, u] ∧ RepP c da O H v d ∧ RepP c da O H u e := by
  cases h with
  | cons a b =>
    obtain ⟨u, rfl, q⟩ := b.one
    exact ⟨_, _, rfl, a, q⟩
theorem bD_len : CallR X (.builtin "len") (rPure (ct X) lenD) := by
  intro pins s σ H xs us Q I r h
  obtain ⟨da, O, ds, rv, hO, p, eg, q⟩ := h
  unfold lenD at eg
  split at eg
  · cases eg
    obtain ⟨v, rfl, P⟩ := p.one
    obtain ⟨a, ys, rfl, ea, ra⟩ := P.lst
    have z := ra.length
    exact call_len_seq pins s σ H _ us Q I r ⟨a, ys, rfl, .inl (.inl (.inl ea)), q _ _ (Ex.refl _) (by rw [z]; exact .int _)⟩
  · cases eg
    obtain ⟨v, rfl, P⟩ := p.one
    obtain ⟨a, ys, rfl, ea, ra, _⟩ := P.tup
    have z := ra.length
    exact call_len_seq pins s σ H _ us Q I r ⟨a, ys, rfl, .inr ea, q _ _ (Ex.refl _) (by rw [z]; exact .int _)⟩
  · cases eg
    obtain ⟨v, rfl, P⟩ := p.one
    obtain ⟨a, ys, rfl, ea, ra, _⟩ := P.ktup
    have z := ra.length
    exact call_len_seq pins s σ H _ us Q I r ⟨a, ys, rfl, .inr ea, q _ _ (Ex.refl _) (by rw [z]; exact .int _)⟩
  · split at eg
    · rename_i hz
      cases eg
      obtain ⟨v, rfl, P⟩ := p.one
      obtain rfl := P.str
      exact call_len_str pins s σ H _ us Q I r ⟨_, rfl, small_fits hz, q _ _ (Ex.refl _) (.int _)⟩
    · cases eg
  · cases eg
    obtain ⟨v, rfl, P⟩ := p.one
    obtain ⟨a, rfl, ea⟩ := P.scr
    exact call_len_seq pins s σ H _ us Q I r ⟨a, _, rfl, .inl ea, q _ _ (Ex.refl _) (by rw [List.length_map]; exact .int _)⟩
  · cases eg
def minD : List D → Option RV
  | [.int i, .int j] => some (.sh (.int (if j < i then j else i)))
  | _ => none
theorem bD_min (hc : X.calm = true) : CallR X (.builtin "min") (rPure (ct X) minD) := by
  intro pins s σ H xs us Q I r h
  obtain ⟨da, O, ds, rv, hO, p, eg, q⟩ := h
  unfold minD at eg
  split at eg
  · cases eg
    obtain ⟨v, u, rfl, p1, p2⟩ := p.two
    obtain rfl := p1.int
    obtain rfl := p2.int
    exact call_min2 hc pins s σ H _ us Q I r ⟨_, _, rfl, q _ _ (Ex.refl _) (.int _)⟩
  · cases eg
def intFD : List D → Option RV
  | [.int i] => some (.sh (.int i))
  | [.bl b] => some (.sh (.int (if b then 1 else 0)))
  | _ => none
theorem bD_int : CallR X (.type "int") (rPure (ct X) intFD) := by
  intro pins s σ H xs us Q I r h
  obtain ⟨da, O, ds, rv, hO, p, eg, q⟩ := h
  unfold intFD at eg
  split at eg
  · cases eg
    obtain ⟨v, rfl, P⟩ := p.one
    obtain rfl := P.int
    exact call_int1 pins s σ H _ us Q I r (.inl ⟨_, rfl, q _ _ (Ex.refl _) (.int _)⟩)
  · cases eg
    obtain ⟨v, rfl, P⟩ := p.one
    obtain rfl := P.bl
    exact call_int1 pins s σ H _ us Q I r (.inr ⟨_, rfl, q _ _ (Ex.refl _) (.int _)⟩)
  · cases eg
def signsD (z : Str) : List D := z.cps.toList.map fun c => .str ⟨#[c]⟩
def listD : List D → Option RV
  | [.lst xs] => some (.fr (.lst xs))
  | [.tup xs] => some (.fr (.lst xs))
  | [.str z] => if z.cps.size ≤ 1000000 then some (.fr (.lst (signsD z))) else none
  | _ => none
theorem call_listStr (hc : X.calm = true) : CallR X (.type "list") (fun xs H Q => ∃ z, xs = [.str z] ∧ z.cps.size ≤ sizeLine ∧ ∀ l, H l = none → Q (.ref l) (upd H l (.lst (z.cps.toList.map fun c => V.str ⟨#[c]⟩)))) := by
  intro pins s σ H xs us Q I r h
  obtain ⟨z, rfl, hz, q⟩ := h
  obtain ⟨u, rfl, t, rfl⟩ := vals1 r
  refine call_list_str (I.ok.hd hc) z t (fun h' tk acc c hk ha hi => ?_) hz
  have hn := I.hok.fresh (Nat.le_refl s.heap.objs.size)
  have hv : ∀ (cs : List Nat) (vs : List Value), vs.length = cs.length → (∀ (i : Nat) (v : Value), vs[i]? = some v → ∃ c u, cs[i]? = some c ∧ v = Value.str ⟨#[c]⟩ u) → Vals (cs.map fun c => V.str ⟨#[c]⟩) vs := by
    intro cs
    induction cs with
    | nil =>
      intro vs hl _
      rw [List.length_eq_zero_iff.mp hl]
      exact .nil
    | cons c cs ih =>
      intro vs hl hP
      cases vs with
      | nil => cases hl
      | cons v vs =>
        obtain ⟨c', u, e1, e2⟩ := hP 0 v rfl
        cases e1
        subst e2
        exact .cons ⟨u, rfl⟩ (ih vs (by simpa using hl) fun i w hw => by
          obtain ⟨c, u, a, b⟩ := hP (i + 1) w (by simpa using hw)
          exact ⟨c, u, by simpa using a, b⟩)
  have hV := hv z.cps.toList acc.toList (by rw [Array.length_toList, Array.length_toList]; exact hi.1) fun i v hw => by
    obtain ⟨c, u, a, b⟩ := hi.2 i v (by simpa using hw)
    exact ⟨c, u, by simpa using a, b⟩
  exact ⟨.ref _, upd H s.heap.objs.size (.lst (z.cps.toList.map fun c => V.str ⟨#[c]⟩)), I.laid (t' := tk) hk (Nat.le_refl _) ⟨by simpa using hz, acc.toList, c, hV, ha⟩, rfl, q _ hn⟩
theorem bD_list (hc : X.calm = true) : CallR X (.type "list") (rPure (ct X) listD) := by
  intro pins s σ H xs us Q I r h
  obtain ⟨da, O, ds, rv, hO, p, eg, q⟩ := h
  unfold listD at eg
  split at eg
  · cases eg
    obtain ⟨v, rfl, P⟩ := p.one
    obtain ⟨a, ys, rfl, ea, ra⟩ := P.lst
    exact call_list_of pins s σ H _ us Q I r ⟨a, ys, rfl, .inl (.inl (.inl ea)), fun l nl => q _ _ (Ex.new nl) (repN_lst nl ra)⟩
  · cases eg
    obtain ⟨v, rfl, P⟩ := p.one
    obtain ⟨a, ys, rfl, ea, ra, _⟩ := P.tup
    exact call_list_of pins s σ H _ us Q I r ⟨a, ys, rfl, .inr ea, fun l nl => q _ _ (Ex.new nl) (repN_lst nl ra)⟩
  · split at eg
    · rename_i z hz
      cases eg
      obtain ⟨v, rfl, P⟩ := p.one
      obtain rfl := P.str
      refine call_listStr hc pins s σ H _ us Q I r ⟨z, rfl, small_fits hz, fun l nl => q _ _ (Ex.new nl) (repN_lst nl ?_)⟩
      have e := RepAll.strs (c := ct X) (da := da) (G := vis O H) (z.cps.toList.map fun c => (⟨#[c]⟩ : Str))
      rw [List.map_map, List.map_map] at e
      exact e
    · cases eg
  · cases eg
def tupD : List D → Option RV
  | [.lst xs] => some (.sh (.tup xs))
  | [.tup xs] => some (.sh (.tup xs))
  | [.ktup xs] => some (.sh (.ktup xs))
  | _ => none
theorem bD_tup : CallR X (.type "tuple") (rPure (ct X) tupD) := by
  intro pins s σ H xs us Q I r h
  obtain ⟨da, O, ds, rv, hO, p, eg, q⟩ := h
  unfold tupD at eg
  split at eg
  · cases eg
    obtain ⟨v, rfl, P⟩ := p.one
    obtain ⟨a, ys, rfl, ea, ra⟩ := P.lst
    exact call_tuple_of pins s σ H _ us Q I r ⟨a, ys, rfl, .inl ⟨.inl (.inl ea), fun l nl => q _ _ (Ex.new nl) (repN_tup nl hO ra)⟩⟩
  · cases eg
    obtain ⟨v, rfl, P⟩ := p.one
    obtain ⟨a, ys, rfl, ea, ra, R⟩ := P.tup
    exact call_tuple_of pins s σ H _ us Q I r ⟨a, ys, rfl, .inr ⟨ea, q _ _ (Ex.refl _) R⟩⟩
  · cases eg
    obtain ⟨v, rfl, P⟩ := p.one
    obtain ⟨a, ys, rfl, ea, ra, R⟩ := P.ktup
    exact call_tuple_of pins s σ H _ us Q I r ⟨a, ys, rfl, .inr ⟨ea, q _ _ (Ex.refl _) R⟩⟩
  · cases eg
def asBl : D → Option Bool
  | .bl b => some b
  | _ => none
def asBls : List D → Option (List Bool)
  | [] => some []
  | d :: r => match asBl d with
    | some b => (asBls r).map (b :: ·)
    | none => none
theorem asBls_map : ∀ (bs : List Bool), asBls (bs.map D.bl) = some bs
  | [] => rfl
  | b :: r => by
    rw [List.map_cons]
    unfold asBls
    rw [asBls_map r]
    rfl
theorem asBls_some : ∀ {ds : List D} {bs : List Bool}, asBls ds = some bs → ds = bs.map D.bl
  | [], _, h => by
    cases h
    rfl
  | d :: r, _, h => by
    unfold asBls at h
    split at h
    · rename_i b e
      cases q : asBls r with
      | none =>
        rw [q] at h
        cases h
      | some bs =>
        rw [q] at h
        cases h
        rw [asBls_some q]
        unfold asBl at e
        split at e
        · cases e
          rfl
        · cases e
    · cases h
def allD : List D → Option RV
  | [.lst xs] => (asBls xs).map fun bs => .sh (.bl (bs.all id))
  | _ => none
theorem bD_all (hc : X.calm = true) : CallR X (.builtin "all") (rPure (ct X) allD) := by
  intro pins s σ H xs us Q I r h
  obtain ⟨da, O, ds, rv, hO, p, eg, q⟩ := h
  unfold allD at eg
  split at eg
  · rename_i ys
    cases e : asBls ys with
    | none =>
      rw [e] at eg
      cases eg
    | some bs =>
      rw [e] at eg
      cases eg
      obtain rfl := asBls_some e
      obtain ⟨v, rfl, P⟩ := p.one
      obtain ⟨a, zs, rfl, ea, ra⟩ := P.lst
      obtain rfl := ra.bls_inv
      exact cr_all hc pins s σ H _ us Q I r ⟨a, bs, rfl, .inl (.inl ea), q _ _ (Ex.refl _) (.bl _)⟩
  · cases eg
/-- sorted(texts) -/
def leS (a b : Str) : Bool := !PySem.Spec.ltCps b.cps.toList a.cps.toList
def sortS (xs : List Str) : List Str := xs.mergeSort leS
def sortedD : List D → Option RV
  | [.lst xs] => (asStrs xs).map fun ss => .fr (.lst ((sortS ss).map D.str))
  | _ => none
theorem lt_def (a b : List Nat) : PySem.Spec.ltCps a b = decide (a < b) := PyProof.Rows.ltCps_eq a b
theorem leS_trans (a b c : Str) (h1 : leS a b = true) (h2 : leS b c = true) : leS a c = true := by
  unfold leS at *
  rw [lt_def] at *
  simp only [Bool.not_eq_true', decide_eq_false_iff_not] at *
  exact List.not_lt.mpr (List.le_trans (List.not_lt.mp h1) (List.not_lt.mp h2))
theorem leS_total (a b : Str) : (leS a b || leS b a) = true := by
  unfold leS
  rw [lt_def, lt_def]
  rcases List.le_total a.cps.toList b.cps.toList with h | h
  · have : ¬ b.cps.toList < a.cps.toList := List.not_lt.mpr h
    simp [this]
  · have : ¬ a.cps.toList < b.cps.toList := List.not_lt.mpr h
    simp [this]
theorem leS_anti {a b : Str} (h1 : leS a b = true) (h2 : leS b a = true) : a = b := by
  unfold leS at *
  rw [lt_def] at *
  simp only [Bool.not_eq_true', decide_eq_false_iff_not] at *
  have e := List.le_antisymm (List.not_lt.mp h1) (List.not_lt.mp h2)
  obtain ⟨a⟩ := a
  obtain ⟨b⟩ := b
  have e' : a = b := Array.toList_inj.mp e
  rw [e']
theorem rising_pw : ∀ {p : Str} {r : List Str}, PyProof.Rows.risingS p r = true → (p :: r).Pairwise fun a b => leS a b = true
  | p, [], _ => by simp
  | p, x :: r, h => by
    have h' : (leS p x && PyProof.Rows.risingS x r) = true := h
    rw [Bool.and_eq_true] at h'
    have ih := rising_pw h'.2
    refine List.pairwise_cons.mpr ⟨fun y hy => ?_, ih⟩
    rcases List.mem_cons.mp hy with rfl | hy
    · exact h'.1
    · exact leS_trans _ _ _ h'.1 ((List.pairwise_cons.mp ih).1 y hy)
theorem sorted_pw : ∀ {r : List Str}, PyProof.Rows.sortedS r = true → r.Pairwise fun a b => leS a b = true
  | [], _ => .nil
  | x :: r, h => rising_pw h
theorem sortS_of {xs ys : List Str} (h : ys.Perm xs) (hs : PyProof.Rows.sortedS ys = true) : ys = sortS xs :=
  List.Perm.eq_of_pairwise (fun a b _ _ => leS_anti) (sorted_pw hs) (List.pairwise_mergeSort leS_trans leS_total xs) (h.trans (List.mergeSort_perm xs leS).symm)
theorem bD_sorted : CallR X (.builtin "sorted") (rPure (ct X) sortedD) := by
  intro pins s σ H xs us Q I r h
  obtain ⟨da, O, ds, rv, hO, p, eg, q⟩ := h
  unfold sortedD at eg
  split at eg
  · rename_i ys
    cases e : asStrs ys with
    | none =>
      rw [e] at eg
      cases eg
    | some ss =>
      rw [e] at eg
      cases eg
      obtain rfl := asStrs_some e
      obtain ⟨v, rfl, P⟩ := p.one
      obtain ⟨a, zs, rfl, ea, ra⟩ := P.lst
      obtain rfl := ra.strs_inv
      refine cr_sortedTexts pins s σ H _ us Q I r ⟨a, ss, rfl, .inl (.inl ea), fun ts p hp hs np => ?_⟩
      rw [sortS_of hp hs]
      exact q _ _ (Ex.new np) (repN_lst np (RepAll.strs _))
  · cases eg

/-! ### repr -/
def shwD (d : D) : Option RV := match toPy d with
  | some p => if p.showable = true ∧ p.hasDict = false ∧ p.depth ≤ 60 ∧ p.shown.length ≤ 1000000 then some (.sh (.str p.shown)) else none
  | none => none
def reprD : List D → Option RV
  | [.lst xs] => shwD (.lst xs)
  | [.tup xs] => shwD (.tup xs)
  | _ => none
theorem bD_repr {k : Nat} (hr : Room k X.A) (hG : X.A.guards = some []) : CallR X (.builtin "repr") (rPure (ct X) reprD) := by
  intro pins s σ H xs us Q I r h
  obtain ⟨da, O, ds, rv, hO, p, eg, q⟩ := h
  have core : ∀ d, shwD d = some rv → (∀ v, RepP (ct X) da O H v d → ∃ a, v = .ref a) → ds = [d] → wpAny (model X.prog X.w) X.A (call (.builtin "repr") us) (EP X pins σ Q) X.xe s := fun d e0 hv ed => by
    subst ed
    obtain ⟨v, rfl, P⟩ := p.one
    obtain ⟨a, rfl⟩ := hv v P
    unfold shwD at e0
    split at e0
    · rename_i py e
      split at e0
      · rename_i hc
        cases e0
        obtain ⟨as, rd⟩ := Dp.reads I py _ _ (P.dp e) (show RelV (.ref a) (.ref a) from rfl)
        rw [Vals.ref1 r]
        have hun := hr.units
        exact repr_of_reads' rd hc.1 (fun z => by rw [hc.2.1] at z; cases z) hG (by omega) (fun _ _ e => e) (fun h' u tk hk => ⟨.str _, H, I.kept (t' := tk) hk, ⟨u, rfl⟩, q _ _ (Ex.refl _) (.str _)⟩) (small_fits hc.2.2.2)
      · cases e0
    · cases e0
  unfold reprD at eg
  split at eg
  · exact core _ eg (fun v P => let ⟨a, _, e, _⟩ := P.lst; ⟨a, e⟩) rfl
  · exact core _ eg (fun v P => let ⟨a, _, e, _⟩ := P.tup; ⟨a, e⟩) rfl
  · cases eg
/-! ### ''.join -/
def joinD (s : Str) : D → Option RV
  | .lst xs => match asStrs xs with
    | some ss => if (ss.map (·.length)).sum + ss.length * s.length ≤ 1000000 then some (.sh (.str (Txt.join s ss))) else none
    | none => none
  | _ => none
theorem mD_join : MtR X "str.join" (fun x xs H Q => ∃ s y, x = .str s ∧ xs = [y] ∧ rP1 (ct X) (joinD s) y H Q) := by
  intro pins s σ H x xs v us Q I rx r h
  obtain ⟨z, y, rfl, rfl, da, O, d1, rv, hO, P, eg, q⟩ := h
  unfold joinD at eg
  split at eg
  · rename_i ys
    split at eg
    · rename_i ss e
      split at eg
      · rename_i hz
        cases eg
        obtain rfl := asStrs_some e
        obtain ⟨a, zs, rfl, ea, ra⟩ := P.lst
        obtain rfl := ra.strs_inv
        exact mt_join pins s σ H _ _ v us Q I rx r ⟨z, a, ss, rfl, rfl, .inl (.inl (.inl ea)), Nat.le_trans hz (by decide), q _ _ (Ex.refl _) (.str _)⟩
      · cases eg
    · cases eg
  · cases eg
end
end FD

end sec_FD11
section sec_FD12
set_option maxRecDepth 100000
set_option maxHeartbeats 5000000
/-! FD12: slices, comparisons, lists that a slot owns, enumerate, displays, sorted by a lambda. -/
namespace FD
open PySem L2
variable [Tabl]

/-! ### slices -/
def cutL {α : Type} (xs : List α) (lo hi : Option Int) : List α := (xs.drop (HT.sIx xs.length 0 lo)).take (HT.sIx xs.length xs.length hi - HT.sIx xs.length 0 lo)
def slD : D → Option Int → Option Int → Option RV
  | .lst xs, lo, hi => some (.fr (.lst (cutL xs lo hi)))
  | .tup xs, lo, hi => some (.sh (.tup (cutL xs lo hi)))
  | .str z, lo, hi => if z.length ≤ 1000000 then some (.sh (.str (cutS z lo hi))) else none
  | _, _, _ => none
def rSl (c : Ct) : V → Option Int → Option Int → Hp → VK → Prop := fun x lo hi H Q => ∃ da O d r, (∀ a ∈ O, ∃ o, H a = some o ∧ NT o) ∧ RepP c da O H x d ∧ slD d lo hi = some r ∧ ∀ v H', Ex H H' → RepN c da O H H' r v → Q v H'
theorem RepAll.cut {c : Ct} {da : Option Addr} {G : Hp} {vs : List V} {ds : List D} (r : RepAll c da G vs ds) (lo hi : Option Int) : RepAll c da G (cutV vs lo hi) (cutL ds lo hi) := by
  unfold cutV cutL
  rw [r.length]
  exact (r.drop _).take _
theorem cut_whole {α : Type} {xs : List α} {lo hi : Option Int} (h : HT.sIx xs.length 0 lo = 0 ∧ HT.sIx xs.length xs.length hi = xs.length) : cutL xs lo hi = xs := by
  unfold cutL
  rw [h.1, h.2]
  simp
section
variable {X : Cx} {a b e o : Expr} {es : List Expr} {pos p p2 apos cpos : Pos} {x m f cn : Str} {k j n i : Nat} {dd : List D} {fa fb fo fe fe' : M RV}
theorem slD_ok : SlR X (rSl (ct X)) := by
  intro pins s σ H x v vl vu lo hi sl Q I rx hs pl pu h
  obtain ⟨da, O, d, r, hO, P, eg, q⟩ := h
  unfold slD at eg
  split at eg
  · cases eg
    obtain ⟨a, xs, rfl, ea, ra⟩ := P.lst
    exact sl_list pins s σ H _ v vl vu _ _ sl Q I rx hs pl pu ⟨a, xs, rfl, .inl (.inl ea), fun p np => q _ _ (Ex.new np) (repN_lst np (ra.cut _ _))⟩
  · cases eg
    obtain ⟨a, xs, rfl, ea, ra, R⟩ := P.tup
    refine sl_tupA pins s σ H _ v vl vu _ _ sl Q I rx hs pl pu ⟨a, xs, rfl, ea, fun hw => ?_, fun _ p np => q _ _ (Ex.new np) (repN_tup np hO (ra.cut _ _))⟩
    rw [ra.length] at hw
    rw [cut_whole hw] at q
    exact q _ _ (Ex.refl _) R
  · split at eg
    · rename_i hz
      cases eg
      exact sl_str pins s σ H _ v vl vu _ _ sl Q I rx hs pl pu ⟨_, P.str, small_fits hz, q _ _ (Ex.refl _) (.str _)⟩
    · cases eg
  · cases eg
def tO (c : Ct) (F : Fm) (f : M (Option Int)) : TO := fun σ H Q => ∃ O ρ w b ρ' w', SR c F O ρ w σ H ∧ f ρ w = some (b, ρ', w') ∧ ∀ O' H', SR c F O' ρ' w' σ H' → Ex (vis O H) (vis O' H') → Q b H'
def FO (X : Cx) (e : Option Expr) (f : M (Option Int)) : Prop := ∀ F, PO X e (tO (ct X) F f)
theorem PO.wk {e : Option Expr} {t t' : TO} (h : PO X e t) (k : ∀ σ H Q, t' σ H Q → t σ H Q) : PO X e t' := ⟨fun pins s σ H Q I q => h.run pins s σ H Q I (k σ H Q q)⟩
theorem fo_none : FO X none (pureM none) := fun F => PO.wk po_none fun σ H Q q => by
  obtain ⟨O, ρ, w, r, ρ', w', S, e, k⟩ := q
  cases e
  exact k O H S (Ex.refl _)
def asI : RV → Option Int
  | .sh (.int i) => some i
  | _ => none
def partM (f : M RV) : M (Option Int) := bindM f fun r => fun ρ w => match asI r with
  | some i => some (some i, ρ, w)
  | none => none
theorem fo_some (h : FE X e fe) : FO X (some e) (partM fe) := fun F => PO.wk (po_some (h F)) fun σ H Q q => by
  obtain ⟨O, ρ, w, r, ρ', w', S, e, k⟩ := q
  refine tE_then S e fun x O1 ρ1 w1 H1 r1 S1 e1 R1 h1 => ?_
  split at h1
  · rename_i i ei
    cases h1
    unfold asI at ei
    split at ei
    · cases ei
      cases R1
      exact ⟨i, rfl, k O1 H1 S1 e1⟩
    · cases ei
  · cases h1
def slM (fa : M RV) (fl fh : M (Option Int)) : M RV := bindM fa fun r1 => bindM fl fun lo => bindM fh fun hi => lift1 (fun d => slD d lo hi) r1
theorem tO_then {c : Ct} {F : Fm} {O : List Addr} {ρ : Env} {w : W} {σ : L2.St} {H : Hp} {f : M (Option Int)} {β : Type} {k : Option Int → M β} {z : β × Env × W} (S : SR c F O ρ w σ H) (h : bindM f k ρ w = some z) {Q : Option Int → Hp → Prop}
    (q : ∀ b O1 ρ1 w1 H1, SR c F O1 ρ1 w1 σ H1 → Ex (vis O H) (vis O1 H1) → k b ρ1 w1 = some z → Q b H1) : tO c F f σ H Q := by
  obtain ⟨r, ρ1, w1, e1, e2⟩ := bindM_some h
  exact ⟨O, ρ, w, r, ρ1, w1, S, e1, fun O1 H1 S1 x => q r O1 ρ1 w1 H1 S1 x e2⟩
theorem fe_sl {lo hi : Option Expr} {fl fh : M (Option Int)} (ha : FE X a fa) (hl : FO X lo fl) (hh : FO X hi fh) : FE X (.Subscript a (.Slice lo hi none p2) pos) (slM fa fl fh) := fun F =>
  PE.wk (pe_slice slD_ok (ha F) (hl F) (hh F)) fun σ H Q h => by
    obtain ⟨O, ρ, w, r, ρ', w', S, e, k⟩ := h
    refine tE_then S e fun v O1 ρ1 w1 H1 r1 S1 e1 R1 h1 => ?_
    refine tO_then S1 h1 fun lo O2 ρ2 w2 H2 S2 e2 h2 => ?_
    refine tO_then S2 h2 fun hi O3 ρ3 w3 H3 S3 e3 h3 => ?_
    obtain ⟨d1, r', p1, eg, ez⟩ := lift1_some h3
    cases ez
    exact ⟨F.dr.da, O3, d1, r, S3.trk, (R1.hold.mono (e2.trans e3)).peek S3 p1, eg, fun v H4 e4 n => k v O3 H4 (S3.grow e4) (((e1.trans e2).trans e3).trans (vis_mono e4)) ((n.out S3 e4).less ((e1.trans e2).trans e3))⟩

/-! ### comparisons, as values and as tests -/
structure FC (X : Cx) (op : CmpOp) (a b : Expr) (pos : Pos) (f : M RV) : Prop where
  fe : FE X (.Compare a [op] [b] pos) f
  ft : FT X (.Compare a [op] [b] pos) (boolM f)
theorem fc_data {op : CmpOp} {g : D → D → Option RV} (ho : OpR X (compareOp op) (rP2 (ct X) g)) (ha : FE X a fa) (hb : FE X b fb) (hm : behindInMarks op b = false) : FC X op a b pos (op2M g fa fb) := ⟨fe_cmp ho ha hb hm, ft_cmp ho ha hb hm⟩
theorem fc_alt {op : CmpOp} {f g : M RV} (h1 : FC X op a b pos f) (h2 : FC X op a b pos g) : FC X op a b pos (alt f g) := ⟨fe_alt h1.fe h2.fe, fun F => ⟨fun pins s σ H Q I q => by
  obtain ⟨O, ρ, w, r, ρ', w', S, e, k⟩ := q
  obtain ⟨r1, ρ1, w1, e1, e2⟩ := bindM_some e
  unfold alt at e1
  split at e1
  · rename_i z ez
    cases e1
    exact (h1.ft F).run pins s σ H Q I ⟨O, ρ, w, r, ρ', w', S, by unfold boolM bindM; rw [ez]; exact e2, k⟩
  · exact (h2.ft F).run pins s σ H Q I ⟨O, ρ, w, r, ρ', w', S, by unfold boolM bindM; rw [e1]; exact e2, k⟩⟩⟩
def eqOM (cn : Str) (ic : List (Str × Bool)) (den : List D → W → Option (RV × W)) (ne : Bool) (fa fb : M RV) : M RV := bindM fa fun r1 => bindM fb fun r2 => bindM (escAll [r1, r2]) fun ds => match ds with
  | [.ins c' gs, d2] => if c' = cn ∧ isiD (fun _ => true) ic d2 = some true then bindM (runD den [.ins c' gs, d2]) fun r => match r with
    | .sh (.bl b) => pureM (.sh (.bl (if ne then !b else b)))
    | _ => failM
    else failM
  | _ => failM
theorem eqO_read {c : Ct} {F : Fm} {ic : List (Str × Bool)} {den : List D → W → Option (RV × W)} {ne : Bool} {σ : L2.St} {H : Hp} {Q : VK} (h : tE c F (eqOM cn ic den ne fa fb) σ H Q) : tOp (rEq c cn ic den ne) (tE c F fa) (tE c F fb) σ H Q := by
  obtain ⟨O, ρ, w, r, ρ', w', S, e, k⟩ := h
  refine tE_then S e fun x O1 ρ1 w1 H1 r1 S1 e1 R1 h1 => ?_
  refine tE_then S1 h1 fun y O2 ρ2 w2 H2 r2 S2 e2 R2 h2 => ?_
  obtain ⟨ds, ρ3, w3, h3, h4⟩ := bindM_some h2
  obtain ⟨rfl, O3, S3, k3, r3⟩ := escAll_ok S2 (.cons (R1.hold.mono e2) (.cons R2.hold .nil)) h3
  split at h4
  · rename_i ds c' gs d2
    split at h4
    · rename_i hc
      obtain ⟨rr, ρ4, w4, h5, h6⟩ := bindM_some h4
      obtain ⟨rq, w5, h7, ez⟩ := runD_some h5
      cases ez
      cases id r3 with
      | cons q1 q2 =>
        cases q2 with
        | cons q2 q3 =>
          obtain ⟨rfl, hi⟩ := hc
          refine ⟨gs, d2, F.dr.da, O3, .inl q1, .inl q2, hi, sp_of (E := E0) S3 r3 rfl h7 fun v H' S4 e4 R4 => ?_⟩
          split at h6
          · rename_i b
            cases h6
            cases R4
            exact ⟨b, rfl, k _ O3 H' S4 (((e1.trans e2).trans k3).trans e4) (.bl _)⟩
          · cases h6
    · cases h4
  · cases h4
theorem fc_eqO {ic : List (Str × Bool)} {den : List D → W → Option (RV × W)} (cl : EqsD X.prog X.w X.K X.mg X.base k cn ic den) (hr : Room j X.A) (ha : FE X a fa) (hb : FE X b fb) (hk : k + 1 ≤ j := by decide) (hm : behindInMarks .Eq b = false := by rfl) :
    FC X .Eq a b pos (eqOM cn ic den false fa fb) :=
  ⟨fun F => PE.wk (pe_cmpR (op_eqO cl (hr.mono hk)) (ha F) (hb F) hm) fun σ H Q h => eqO_read h, fun F => PT.wk (pt_cmpR (op_eqO cl (hr.mono hk)) (ha F) (hb F) hm) fun σ H Q q => eqO_read (bool_read q)⟩
theorem fc_neO {ic : List (Str × Bool)} {den : List D → W → Option (RV × W)} (cl : EqsD X.prog X.w X.K X.mg X.base k cn ic den) (hr : Room j X.A) (ha : FE X a fa) (hb : FE X b fb) (hk : k + 1 ≤ j := by decide) (hm : behindInMarks .NotEq b = false := by rfl) :
    FC X .NotEq a b pos (eqOM cn ic den true fa fb) :=
  ⟨fun F => PE.wk (pe_cmpR (op_neO cl (hr.mono hk)) (ha F) (hb F) hm) fun σ H Q h => eqO_read h, fun F => PT.wk (pt_cmpR (op_neO cl (hr.mono hk)) (ha F) (hb F) hm) fun σ H Q q => eqO_read (bool_read q)⟩
end

/-! ### lists that a slot owns -/
section
variable {c : Ct} {F : Fm} {O : List Addr} {ρ : Env} {w : W} {σ : L2.St} {H : Hp}
theorem SR.pokeOwn {i : Nat} {d d' : D} {a : Addr} {o' : HO} (S : SR c F O ρ w σ H) (h : ρ[i]? = some (some (Slot.own d))) (hs : σ[i]? = some (some (V.ref a))) (ob : Obj c F.dr.da (vis O H) o' d') :
    SR c F O (ρ.set i (some (.own d'))) w σ (upd H a o') ∧ vis O (upd H a o') = vis O H := by
  obtain ⟨a', o, h1, h2, h3, h4, h5⟩ := S.own i d h
  rw [hs] at h1
  cases h1
  have nx : ∀ φ, o ≠ .ext φ := fun φ z => by
    rcases h5 with ⟨_, _, e, _⟩ | ⟨_, _, e, _⟩ | ⟨_, _, e, _⟩ | ⟨_, _, _, _, _, e, _⟩ <;> (rw [z] at e; cases e)
  have v : vis O (upd H a o') = vis O H := vis_upd h2
  have nd : ∀ b ∈ F.dr.as, b ≠ a := fun b hb z => h3 (z ▸ S.drs b hb)
  refine ⟨⟨by rw [List.length_set]; exact S.len, fun b u q n => ?_, S.new, S.sub, S.drs, fun b q => ?_, ?_, fun j e q => ?_, fun j e q => ?_, fun j j' e e' b q q' => ?_⟩, v⟩
  · rw [upd_ne fun z => ?_]
    · exact S.base b u q n
    · rw [z, S.new a h2 h3] at q
      cases q
  · by_cases z : b = a
    · rw [z]
      exact ⟨o', upd_same, ob.nt⟩
    · rw [upd_ne z]
      exact S.trk b q
  · exact ⟨fun t q => let ⟨q1, q2, q3, q4⟩ := S.draw.1 t q; ⟨by rw [upd_ne (nd _ (Dr.mem1 q))]; exact q1, by rw [upd_ne (nd _ (Dr.mem2 q))]; exact q2, by rw [upd_ne (nd _ (Dr.mem3 q))]; exact q3, q4⟩, tabs_upd S.draw.2 (fun p hp => nd p.1 (Dr.tab hp)) h4 nx⟩
  · rw [v]
    rcases getElem?_set_some q with ⟨_, z⟩ | ⟨_, q⟩
    · cases z
    · exact S.val j e q
  · rw [v]
    rcases getElem?_set_some q with ⟨rfl, z⟩ | ⟨ne, q⟩
    · cases z
      exact ⟨a, o', hs, h2, h3, upd_same, ob⟩
    · obtain ⟨b, u, q1, q2, q3, q4, q5⟩ := S.own j e q
      refine ⟨b, u, q1, q2, q3, ?_, q5⟩
      rw [upd_ne fun z => ?_]
      · exact q4
      · rw [z] at q1
        exact ne (S.uni i j d e a h q hs q1)
  · have back : ∀ {j : Nat} {e : D}, (ρ.set i (some (.own d')))[j]? = some (some (Slot.own e)) → ∃ e0, ρ[j]? = some (some (Slot.own e0)) := fun {j e} q => by
      rcases getElem?_set_some q with ⟨rfl, z⟩ | ⟨_, q⟩
      · exact ⟨d, h⟩
      · exact ⟨e, q⟩
    obtain ⟨e0, q0⟩ := back q
    obtain ⟨e1, q1⟩ := back q'
    exact fun a1 a2 => S.uni j j' e0 e1 b q0 q1 a1 a2
end
def ownL (ρ : Env) (i : Nat) : Option (List D) := match ρ[i]? with
  | some (some (.own (.lst ds))) => some ds
  | _ => none
theorem ownL_some {ρ : Env} {i : Nat} {ds : List D} (h : ownL ρ i = some ds) : ρ[i]? = some (some (.own (.lst ds))) := by
  unfold ownL at h
  split at h
  · rename_i e
    cases h
    exact e
  · cases h
def appM (i : Nat) (fe : M RV) : M RV := fun ρ w => match ownL ρ i with
  | none => none
  | some _ => bindM fe (fun r => bindM (escR r) fun d => fun ρ1 w1 => match ownL ρ1 i with
    | some ds => if ds.length < 1000000 then some (.sh .non, ρ1.set i (some (.own (.lst (ds ++ [d])))), w1) else none
    | none => none) ρ w
def popM (i : Nat) (fe : M RV) : M RV := fun ρ w => match ownL ρ i with
  | none => none
  | some _ => bindM fe (fun r => fun ρ1 w1 => match r with
    | .sh (.int k) => (match ownL ρ1 i with
      | some ds => if 0 ≤ k ∧ k < ds.length ∧ ds.length < 1000000 then (match ds[k.toNat]? with
        | some d => some (.sh d, ρ1.set i (some (.own (.lst (ds.eraseIdx k.toNat)))), w1)
        | none => none) else none
      | none => none)
    | _ => none) ρ w
section
variable {X : Cx} {e : Expr} {pos p apos cpos : Pos} {x : Str} {i : Nat} {fe : M RV}
theorem own_obj {c : Ct} {F : Fm} {O : List Addr} {ρ : Env} {w : W} {σ : L2.St} {H : Hp} {ds : List D} (S : SR c F O ρ w σ H) (h : ownL ρ i = some ds) : ∃ a xs, σ[i]? = some (some (V.ref a)) ∧ H a = some (.lst xs) ∧ RepAll c F.dr.da (vis O H) xs ds := by
  obtain ⟨a, o, h1, _, _, h4, h5⟩ := S.own i _ (ownL_some h)
  rcases h5 with ⟨xs, es, rfl, e2, r⟩ | ⟨_, _, _, e2, _⟩ | ⟨_, _, _, e2, _⟩ | ⟨_, _, _, _, _, _, e2, _⟩
  · cases e2
    exact ⟨a, xs, h1, h4, r⟩
  · cases e2
  · cases e2
  · cases e2
/-- x.append(e) -/
theorem fe_append (hv : PE X (.Name x p) (tVar i)) (he : FE X e fe) (hbase : attributeBase (.Name x p) "append" X.env (eval (.Name x p) X.env) = eval (.Name x p) X.env := by rfl)
    (hfew : ((backTo cpos (starEach [e] X.env)).all (fun x => !x.1) && (backToKw cpos (keywordEach [] X.env)).all (fun x => x.1.isSome) && decide ([e].length + ([] : List Keyword).length + (if ([] : List Keyword).isEmpty then 0 else 1) < 30)) = true := by rfl)
    (hline : (apos.endLine == cpos.line) = true := by rfl) (hs : starEach [e] X.env = (false, eval e X.env) :: starEach [] X.env := by rfl) : FE X (.Call (.Attribute (.Name x p) "append" apos) [e] [] cpos) (appM i fe) := fun F =>
  PE.wk (pe_bm PySem.F.plainAttrs_list PySem.F.slot_list_append PySem.F.type_list_append mt_append hv (pa_cons (he F) pa_nil hs) hbase hfew hline hs) fun σ H Q h => by
    obtain ⟨O, ρ, w, r, ρ', w', S, e, k⟩ := h
    unfold appM at e
    split at e
    · cases e
    · rename_i ds0 e0
      obtain ⟨a, xs, h1, h2, r1⟩ := own_obj S e0
      refine ⟨_, h1, .inl ⟨rfl, xs, .inl (.inl h2)⟩, ?_⟩
      refine tE_then S e fun v O1 ρ1 w1 H1 rv S1 e1 R1 h3 => ?_
      obtain ⟨d, ρ2, w2, h4, h5⟩ := bindM_some h3
      obtain ⟨rfl, O2, S2, k2, r2⟩ := escR_ok S1 R1.hold h4
      split at h5
      · rename_i ds e5
        split at h5
        · rename_i hl
          cases h5
          obtain ⟨a', ys, q1, q2, q3⟩ := own_obj S2 e5
          rw [h1] at q1
          cases q1
          refine ⟨a, ys, v, rfl, rfl, q2, by rw [q3.length]; exact Nat.lt_of_lt_of_le hl (by decide), ?_⟩
          obtain ⟨S3, v3⟩ := S2.pokeOwn (ownL_some e5) h1 (.inl ⟨ys ++ [v], ds ++ [d], rfl, rfl, q3.snoc r2⟩)
          exact k _ O2 _ S3 (by rw [v3]; exact e1.trans k2) .non
        · cases h5
      · cases h5
/-- x.pop(e) -/
theorem fe_pop (hv : PE X (.Name x p) (tVar i)) (he : FE X e fe) (hbase : attributeBase (.Name x p) "pop" X.env (eval (.Name x p) X.env) = eval (.Name x p) X.env := by rfl)
    (hfew : ((backTo cpos (starEach [e] X.env)).all (fun x => !x.1) && (backToKw cpos (keywordEach [] X.env)).all (fun x => x.1.isSome) && decide ([e].length + ([] : List Keyword).length + (if ([] : List Keyword).isEmpty then 0 else 1) < 30)) = true := by rfl)
    (hline : (apos.endLine == cpos.line) = true := by rfl) (hs : starEach [e] X.env = (false, eval e X.env) :: starEach [] X.env := by rfl) : FE X (.Call (.Attribute (.Name x p) "pop" apos) [e] [] cpos) (popM i fe) := fun F =>
  PE.wk (pe_bm PySem.F.plainAttrs_list PySem.F.slot_list_pop PySem.F.type_list_pop mt_popAt hv (pa_cons (he F) pa_nil hs) hbase hfew hline hs) fun σ H Q h => by
    obtain ⟨O, ρ, w, r, ρ', w', S, e, k⟩ := h
    unfold popM at e
    split at e
    · cases e
    · rename_i ds0 e0
      obtain ⟨a, xs, h1, h2, r1⟩ := own_obj S e0
      refine ⟨_, h1, .inl ⟨rfl, xs, .inl (.inl h2)⟩, ?_⟩
      refine tE_then S e fun v O1 ρ1 w1 H1 rv S1 e1 R1 h3 => ?_
      split at h3
      · rename_i kk
        cases R1
        split at h3
        · rename_i ds e5
          split at h3
          · rename_i hl
            split at h3
            · rename_i d ed
              cases h3
              obtain ⟨a', ys, q1, q2, q3⟩ := own_obj S1 e5
              rw [h1] at q1
              cases q1
              obtain ⟨y, hy, ry⟩ := q3.get ed
              obtain ⟨hl1, hl2, hl3⟩ := hl
              have hn : seqIndex? kk ys.length = some kk.toNat := seqIndex_of hl1 (by rw [q3.length]; exact hl2)
              refine ⟨a, ys, kk, kk.toNat, y, rfl, rfl, q2, by omega, by omega, hn, hy, ?_⟩
              obtain ⟨S3, v3⟩ := S1.pokeOwn (ownL_some e5) h1 (.inl ⟨ys.eraseIdx kk.toNat, ds.eraseIdx kk.toNat, rfl, rfl, q3.eraseIdx _⟩)
              exact k _ O1 _ S3 (by rw [v3]; exact e1) (by show Rep _ _ (vis O1 (upd H1 a _)) y d; rw [v3]; exact ry)
            · cases h3
          · cases h3
        · cases h3
      · cases h3
end
end FD

end sec_FD12
section sec_FD13
set_option maxRecDepth 100000
set_option maxHeartbeats 5000000
/-! FD13: enumerate, sorted by a lambda, displays of dicts. -/
namespace FD
open PySem L2
variable [Tabl]
def numD : Nat → List D → List D
  | _, [] => []
  | n, d :: r => .tup [.int n, d] :: numD (n + 1) r
theorem numD_get : ∀ (ds : List D) (n i : Nat), (numD n ds)[i]? = (ds[i]?).map fun d => .tup [.int ((n + i : Nat) : Int), d]
  | [], n, i => by simp [numD]
  | d :: r, n, 0 => by simp [numD]
  | d :: r, n, i + 1 => by
    rw [numD, List.getElem?_cons_succ, List.getElem?_cons_succ, numD_get r (n + 1) i]
    have e : n + 1 + i = n + (i + 1) := by omega
    rw [e]
theorem numD_length : ∀ (ds : List D) (n : Nat), (numD n ds).length = ds.length
  | [], n => rfl
  | d :: r, n => by simp [numD, numD_length r]
section
variable {c : Ct} {dr : Dr} {da : Option Addr} {G : Hp}
theorem wk_pair {ds : List D} {xs : List V} {i : Nat} {O : List Addr} {H : Hp} {T : Addr} {x : V} {d : D} (r : RepAll c da G xs ds) (hd : (numD 0 ds)[i]? = some d) (e : Ex G (vis O H)) (tr : ∀ a ∈ O, ∃ o, H a = some o ∧ NT o) (nT : H T = none) (hx : xs[i]? = some x) :
    Ex H (upd H T (.tup [.int (i : Nat), x])) ∧ Rep c da (vis O (upd H T (.tup [.int (i : Nat), x]))) (.ref T) d := by
  rw [numD_get] at hd
  cases q : ds[i]? with
  | none =>
    rw [q] at hd
    cases hd
  | some d0 =>
    rw [q] at hd
    have hd' : D.tup [.int ((0 + i : Nat) : Int), d0] = d := Option.some.inj hd
    subst hd'
    obtain ⟨v, hv, rv⟩ := r.get q
    rw [hx] at hv
    cases hv
    have nO : T ∉ O := fun z => by
      obtain ⟨o, h, _⟩ := tr T z
      rw [nT] at h
      cases h
    have xn : Ex H (upd H T (.tup [.int (i : Nat), x])) := Ex.new nT
    refine ⟨xn, .tup (xs := [.int (i : Nat), x]) ?_ (.cons ?_ (.cons (rv.mono (e.trans (vis_mono xn))) .nil))⟩
    · rw [vis_out nO]
      exact upd_same
    · rw [Nat.zero_add]
      exact .int _
theorem wk_enumL {a : Addr} {xs : List V} {ds : List D} (s0 : G a = some (.lst xs)) (r : RepAll c dr.da G xs ds) : Wk c dr (Ite c.K a) G (numD 0 ds) := fun i O H e tr _ => by
  have s' : SqL c.K H a xs := (e.trans vis_ex).sl (SqL.of s0)
  refine ⟨fun d h => ?_, fun h => ⟨xs, s', by rw [numD_length] at h; rw [r.length]; exact Nat.le_of_eq h⟩⟩
  have hl : i < ds.length := by rw [← numD_length ds 0]; exact (List.getElem?_eq_some_iff.mp h).1
  obtain ⟨v, h1, _⟩ := r.get (i := i) (d := ds[i]) (by simp [hl])
  refine ⟨⟨xs, v, s', h1⟩, fun x H' y => ?_⟩
  obtain ⟨T, x', rfl, nT, rfl, hx⟩ := y
  exact wk_pair r h e tr nT (hx xs s')
theorem wk_enumT {a : Addr} {xs : List V} {ds : List D} (s : SqT c.K G a xs) (r : RepAll c dr.da G xs ds) : Wk c dr (EN.Ien c.K (.tup a)) G (numD 0 ds) := fun i O H e tr _ => by
  have now : (ZP.Src.tup a).has c.K H xs := (e.trans vis_ex).st s
  refine ⟨fun d h => ?_, fun h => ⟨xs, now, by rw [r.length, ← h, numD_length]⟩⟩
  have hl : i < ds.length := by rw [← numD_length ds 0]; exact (List.getElem?_eq_some_iff.mp h).1
  obtain ⟨v, h1, _⟩ := r.get (i := i) (d := ds[i]) (by simp [hl])
  refine ⟨⟨xs, v, now, h1⟩, fun x H' y => ?_⟩
  obtain ⟨T, x', rfl, nT, rfl, hx⟩ := y
  exact wk_pair r h e tr nT (hx xs now)
end
def seqD : D → Option (List D)
  | .lst ds => some ds
  | .tup ds => some ds
  | .ktup ds => some ds
  | _ => none
def enumM (fe : M RV) : M (List D) := bindM fe fun r => bindM (escR r) fun d => fun ρ w => match seqD d with
  | some ds => some (numD 0 ds, ρ, w)
  | none => none
section
variable {X : Cx} {e : Expr} {elts : List Expr} {pos p tpos lpos kpos p1 p2 p3 p4 p5 : Pos} {kk i1 k : Nat} {fe : M RV}
theorem fi_enum (hg : Gl X "enumerate") (hm : X.mg "enumerate" = none) (he : FE X e fe) (hs : starEach [e] X.env = (false, eval e X.env) :: starEach [] X.env := by rfl) (hs0 : starEach [e] X.env = [(false, eval e X.env)] := by rfl) : FI X (.Tuple elts kk tpos) (.Call (.Name "enumerate" p) [e] [] pos) (enumM fe) := fun F => ⟨fun pins s σ H R I q => by
  obtain ⟨O, ρ, w, ds, ρ', w', S, e, k⟩ := q
  obtain ⟨r, ρ1, w1, e1, e2⟩ := bindM_some e
  obtain ⟨d, ρ2, w2, e3, e4⟩ := bindM_some e2
  have go : ∀ (Q : VK), (∀ v O2 H2, SR (ct X) F O2 ρ2 w2 σ H2 → Ex (vis O H) (vis O2 H2) → Rep (ct X) F.dr.da (vis O2 H2) v d → Q v H2) → tE (ct X) F fe σ H Q := fun Q hq => ⟨O, ρ, w, r, ρ1, w1, S, e1, fun v O1 H1 S1 x1 R1 => by
    obtain ⟨rfl, O2, S2, k2, r2⟩ := escR_ok S1 R1.hold e3
    exact hq v O2 H1 S2 (x1.trans k2) r2⟩
  cases d with
  | lst es =>
    cases e4
    refine (pi_enum hg hm (pa_cons (he F) pa_nil hs) hs0).run pins s σ H R I (go _ fun v O2 H2 S2 x2 r2 => ?_)
    cases r2 with
    | lst s r => exact ⟨_, _, rfl, vis_ex.sl (SqL.of s), k _ O2 H2 S2 x2 (wk_enumL s r)⟩
  | tup es =>
    cases e4
    refine (EN.pi_en hg hm (he F) hs).run pins s σ H R I (go _ fun v O2 H2 S2 x2 r2 => ?_)
    cases r2 with
    | @tup a _ _ s r => exact ⟨.tup a, _, rfl, .inl (.inl (vis_ex _ _ s)), k _ O2 H2 S2 x2 (wk_enumT (.inl (.inl s)) r)⟩
  | ktup es =>
    cases e4
    refine (EN.pi_en hg hm (he F) hs).run pins s σ H R I (go _ fun v O2 H2 S2 x2 r2 => ?_)
    cases r2 with
    | @ktup a _ _ s r => exact ⟨.tup a, _, rfl, vis_ex.st s, k _ O2 H2 S2 x2 (wk_enumT s r)⟩
  | _ => cases e4⟩

/-! ### sorted(e, key=lambda y: (len(y), y)) -/
theorem fe_sortLam {c P : Addr} {y : Str} {params : Arguments} {scope : Scope} (hg : Gl X "sorted") (hm : X.mg "sorted" = none) (hml : X.mg "len" = none) (hr : Room (k + 4) X.A)
    (TB : LamX.TabB X.base X.mg c P) (hcode : X.env.code = .ref c) (hmT : (P, X.env.qual ++ "<lambda>") ∈ Tabl.T) (hu : ∀ p ∈ Tabl.T, p.1 = P → p.2 = X.env.qual ++ "<lambda>") (he : FE X e fe)
    (hdef : defaultsOf params X.env = ([], [])) (hfree : ∀ z ∈ scope.names, z.2 ≠ .free)
    (hbind : ∀ cl pm cd ctv v, bindArgs (PySem.W.kla_fn "<lambda>" (X.env.qual ++ "<lambda>") params (.Tuple [.Call (.Name "len" p1) [.Name y p2] [] p3, .Name y p4] i1 p5) scope cl pm cd ctv) ⟨[v], []⟩ = pure [(y, v)])
    (hk : scope.kind = .function) (hco : scope.isCoroutine = false) (hgen : scope.isGenerator = false) (hcell : ∀ x ∈ scope.names, x.2 ≠ .cell)
    (hy : scope.names.lookup y = some .local) (hl : scope.names.lookup ("len" : Str) = some .globalImplicit) (hd : (y == ("__debug__" : Str)) = false)
    (hs : starEach [e] X.env = (false, eval e X.env) :: starEach [] X.env := by rfl) :
    FE X (.Call (.Name "sorted" p) [e] [⟨some "key", .Lambda params (.Tuple [.Call (.Name "len" p1) [.Name y p2] [] p3, .Name y p4] i1 p5) scope lpos, kpos⟩] pos) (sortM SK.byLen fe) := fun F =>
  PE.wk (SK.pe_sortLam hg hm hml hr TB hcode hmT hu (he F) hdef hfree hbind hk hco hgen hcell hy hl hd hs) fun σ H Q h => by
    obtain ⟨O, ρ, w, r, ρ', w', S, e, kq⟩ := h
    refine tE_then S e fun v O1 ρ1 w1 H1 r1 S1 e1 R1 h1 => ?_
    obtain ⟨xs, p1, hx, ez⟩ := sort_in h1
    cases ez
    obtain ⟨l, ys, rfl, hl, ra⟩ := (R1.hold.peek S1 p1).lst
    obtain rfl := ra.strs_inv
    have dT := S1.draw.2
    have hP : P ∈ F.dr.as := Dr.tab hmT
    have isT : ∃ ps, H1 P = some (.tbl ps) := by
      obtain ⟨ps, q, _⟩ := dT _ hmT
      exact ⟨ps, q⟩
    obtain ⟨ps, tP⟩ := isT
    have nP : ∀ b o, H1 b = some o → (∀ ps, o ≠ .tbl ps) → b ≠ P := fun b o q n z => by
      rw [z, tP] at q
      exact n ps (Option.some.inj q).symm
    refine ⟨l, xs, rfl, .inl (.inl hl), hx, dT, nP _ _ hl (fun _ z => nomatch z), fun H2 p t2 k2 np => ?_⟩
    have kp : Kp F.dr H1 H2 := fun b o q n => k2 b o q fun z => n (z ▸ hP)
    have dw : DrawAt F.dr w' H2 := ⟨fun t q => let ⟨q1, q2, q3, q4⟩ := S1.draw.1 t q; ⟨k2 _ _ q1 (nP _ _ q1 (fun _ z => nomatch z)), k2 _ _ q2 (nP _ _ q2 (fun _ z => nomatch z)), k2 _ _ q3 (nP _ _ q3 (fun _ z => nomatch z)), q4⟩, t2⟩
    have S2 := S1.kept kp dw
    obtain ⟨S3, k3, R3⟩ := new_lst S2 np (RepAll.strs (SK.byLen xs))
    exact kq _ O1 _ S3 ((e1.trans (vis_kp S1.drO kp)).trans k3) (R3.less (e1.trans (vis_kp S1.drO kp)))

/-! ### displays of dicts -/
theorem fe_dic0 : FE X (.Dict [] [] pos) (pureM (.fr (.dic []))) := fun F => PE.wk pe_dnewK fun σ H Q h => by
  obtain ⟨O, ρ, w, r, ρ', w', S, e, k⟩ := h
  cases e
  intro p np
  have x2 : Ex H (upd H p (.dK [])) := Ex.new np
  obtain ⟨S3, n3, k3⟩ := S.hide np x2 upd_same
  exact k _ O _ (S.grow x2) (vis_mono x2) ⟨p, _, rfl, n3, S3, upd_same, .inr (.inl ⟨[], [], rfl, rfl, .nil⟩), k3⟩
end
end FD

end sec_FD13
section sec_FD14
set_option maxRecDepth 100000
set_option maxHeartbeats 5000000
/-! FD14: the draws. -/
namespace FD
open PySem L2
variable [Tabl]
section
variable {c : Ct} {F : Fm} {O : List Addr} {ρ : Env} {w w' : W} {σ : L2.St} {H : Hp} {v : V}
def drK (a b : Addr) (w : W) : List (Key × V) := [(.inr "wide", .ref a), (.inr "cells", .ref b), (.inr "rest", .int w.rest), (.inr "turn", .int w.turn)]
theorem draw_of {G : Hp} (S : SR c F O ρ w σ H) (R : Rep c F.dr.da G v .draw) : ∃ t, F.dr.at_ = some t ∧ v = .ref t.1 ∧ H t.1 = some (.dK (drK t.2.1 t.2.2 w)) ∧
    H t.2.1 = some (.lst (w.wide.map V.int)) ∧ H t.2.2 = some (.lst (w.cells.map V.int)) ∧ t.2.1 ≠ t.2.2 ∧ w.cells = F.dr.cl := by
  cases R with
  | draw h =>
    unfold Dr.da at h
    cases e : F.dr.at_ with
    | none =>
      rw [e] at h
      cases h
    | some t =>
      rw [e] at h
      cases h
      exact ⟨t, rfl, rfl, S.draw.1 t e⟩
end
def drI (f : W → Int) (fo : M RV) : M RV := bindM fo fun r => fun ρ w => match r with
  | .sh .draw => some (.sh (.int (f w)), ρ, w)
  | _ => none
def drT (f : W → Bool) (fo : M RV) : M Bool := bindM fo fun r => fun ρ w => match r with
  | .sh .draw => some (f w, ρ, w)
  | _ => none
def drPop (fo : M RV) : M RV := bindM fo fun r => fun ρ w => match r with
  | .sh .draw => (match w.wide with
    | x :: xs => if xs.length < 1000000 then some (.sh (.int x), ρ, { w with wide := xs }) else none
    | [] => none)
  | _ => none
def drC (fo : M RV) : M (List D) := bindM fo fun r => fun ρ w => match r with
  | .sh .draw => some (w.cells.map D.int, ρ, w)
  | _ => none
def drSet (f : W → Int → W) (fv fo : M RV) : M Fl := bindM fv fun r1 => bindM fo fun r => fun ρ w => match r1, r with
  | .sh (.int i), .sh .draw => some (.nx, ρ, f w i)
  | _, _ => none
section
variable {X : Cx} {o e : Expr} {pos p pos' apos cpos : Pos} {j1 j2 k : Nat} {fo fe : M RV} {tg : Expr}
theorem fe_drI {key : Str} {f : W → Int} (hr : Room k X.A) (ho : FE X o fo) (hv : ∀ a b w, valV (drK a b w) (.inr key) = some (.int (f w)))
    (hs : NoSl (.Constant (.str key) j1 p) := by intro _ _; rfl) : FE X (.Subscript o (.Constant (.str key) j1 p) pos) (drI f fo) := fun F => PE.wk (pe_dget (hu_of hr) (ho F) pe_str hs) fun σ H Q q => by
  obtain ⟨O, ρ, w, r, ρ', w', S, e, kq⟩ := q
  refine tE_then S e fun x O1 ρ1 w1 H1 r1 S1 e1 R1 h1 => ?_
  split at h1
  · cases h1
    obtain ⟨t, _, rfl, q1, _⟩ := draw_of S1 R1
    refine ⟨t.1, .int (f w'), rfl, ?_, kq _ O1 H1 S1 e1 (.int _)⟩
    rw [← hv t.2.1 t.2.2 w']
    exact DGet.k (k := .inr key) q1
  · cases h1
theorem pe_drL {key : Str} {F : Fm} (hr : Room k X.A) (ho : FE X o fo) (hs : NoSl (.Constant (.str key) j1 p) := by intro _ _; rfl) : PE X (.Subscript o (.Constant (.str key) j1 p) pos) (tDGet (tE (ct X) F fo) (tC (.str key))) := pe_dget (hu_of hr) (ho F) pe_str hs
/-- d['wide'] != [] -/
theorem ft_drWide (hr : Room k X.A) (ho : FE X o fo) (hs : NoSl (.Constant (.str "wide") j1 p) := by intro _ _; rfl) : FT X (.Compare (.Subscript o (.Constant (.str "wide") j1 p) pos') [.NotEq] [.List [] apos] pos) (drT (fun w => !w.wide.isEmpty) fo) := fun F =>
  PT.wk (pt_cmpR (op_neD hr.units) (pe_drL hr ho hs) (pe_lst pa_nil) rfl) fun σ H Q q => by
  obtain ⟨O, ρ, w, r, ρ', w', S, e, kq⟩ := q
  refine tE_then S e fun x O1 ρ1 w1 H1 r1 S1 e1 R1 h1 => ?_
  split at h1
  · cases h1
    obtain ⟨t, _, rfl, q1, q2, _⟩ := draw_of S1 R1
    refine ⟨t.1, .ref t.2.1, rfl, DGet.k (k := .inr "wide") q1, small_fits (Nat.zero_le _), fun p np => ?_⟩
    have x2 : Ex H1 (upd H1 p (.lst [])) := Ex.new np
    have dp : ∀ ns : List Int, DpAll X.K (upd H1 p (.lst [])) (ns.map V.int) (ns.map PyData.int) := fun ns => by
      induction ns with
      | nil => exact .nil
      | cons n ns ih => exact .cons (.int n) ih
    have sh : ∀ ns : List Int, SeqAt.shaped (.list (ns.map PyData.int)) = true := fun ns => by
      have h1 : ∀ ns : List Int, PyData.canLayAll0 (ns.map PyData.int) = true := fun ns => by
        induction ns with
        | nil => rfl
        | cons n ns ih => simpa [PyData.canLayAll0, PyData.canLay0] using ih
      have h2 : ∀ ns : List Int, PyData.depthAll (ns.map PyData.int) = 0 := fun ns => by
        induction ns with
        | nil => rfl
        | cons n ns ih => simp [PyData.depthAll, PyData.depth, ih]
      unfold SeqAt.shaped
      simp [PyData.canLay0, h1, PyData.depth, h2]
    refine ⟨.list (w'.wide.map PyData.int), .list [], .lst (.inl (.inl (x2 _ _ q2))) (dp _), .lst (.inl (.inl upd_same)) .nil, sh _, sh [], _, rfl, ?_⟩
    have eb : (!PyData.eqv (.list (w'.wide.map PyData.int)) (.list [])) = !w'.wide.isEmpty := by
      cases w'.wide with
      | nil => rfl
      | cons n ns => rfl
    rw [eb]
    exact kq O1 _ (S1.grow x2) (e1.trans (vis_mono x2))
  · cases h1
/-- d['wide'].pop(0) -/
theorem fe_drPop (hr : Room k X.A) (ho : FE X o fo) (hs : NoSl (.Constant (.str "wide") j1 p) := by intro _ _; rfl)
    (hbase : attributeBase (.Subscript o (.Constant (.str "wide") j1 p) pos) "pop" X.env (eval (.Subscript o (.Constant (.str "wide") j1 p) pos) X.env) = eval (.Subscript o (.Constant (.str "wide") j1 p) pos) X.env := by rfl)
    (hfew : ((backTo cpos (starEach [.Constant (.int 0) j2 pos'] X.env)).all (fun x => !x.1) && (backToKw cpos (keywordEach [] X.env)).all (fun x => x.1.isSome) && decide ([Expr.Constant (.int 0) j2 pos'].length + ([] : List Keyword).length + (if ([] : List Keyword).isEmpty then 0 else 1) < 30)) = true := by rfl)
    (hline : (apos.endLine == cpos.line) = true := by rfl) (hst : starEach [.Constant (.int 0) j2 pos'] X.env = (false, eval (.Constant (.int 0) j2 pos') X.env) :: starEach [] X.env := by rfl) :
    FE X (.Call (.Attribute (.Subscript o (.Constant (.str "wide") j1 p) pos) "pop" apos) [.Constant (.int 0) j2 pos'] [] cpos) (drPop fo) := fun F =>
  PE.wk (pe_bm PySem.F.plainAttrs_list PySem.F.slot_list_pop PySem.F.type_list_pop mt_popAt (pe_drL hr ho hs) (pa_cons pe_int pa_nil hst) hbase hfew hline hst) fun σ H Q q => by
  obtain ⟨O, ρ, w, r, ρ', w', S, e, kq⟩ := q
  refine tE_then S e fun x O1 ρ1 w1 H1 r1 S1 e1 R1 h1 => ?_
  split at h1
  · split at h1
    · rename_i n ns ew
      split at h1
      · rename_i hl
        cases h1
        obtain ⟨t, et, rfl, q1, q2, q3, q4⟩ := draw_of S1 R1
        rw [ew] at q2
        refine ⟨t.1, .ref t.2.1, rfl, DGet.k (k := .inr "wide") q1, .inl ⟨rfl, _, .inl (.inl q2)⟩, t.2.1, (n :: ns).map V.int, 0, 0, .int n, rfl, rfl, q2, by decide, by decide, seqIndex_of (by decide) (by simp <;> omega), rfl, ?_⟩
        have n1 : t.1 ≠ t.2.1 := fun z => by
          rw [z, q2] at q1
          cases q1
        have kp : Kp F.dr H1 (upd H1 t.2.1 (.lst (((n :: ns).map V.int).eraseIdx 0))) := fun b u hb nb => by
          have z : b ≠ t.2.1 := fun z => nb (by rw [z]; exact Dr.mem2 et)
          rw [upd_ne z]
          exact hb
        have dw : DrawAt F.dr { w1 with wide := ns } (upd H1 t.2.1 (.lst (((n :: ns).map V.int).eraseIdx 0))) := by
          refine ⟨fun t' e' => ?_, tabs_upd S1.draw.2 (fun p hp z => ?_) q2 (fun _ z => nomatch z)⟩
          · rw [et] at e'
            cases e'
            exact ⟨by rw [upd_ne n1]; exact q1, by rw [upd_same]; rfl, by rw [upd_ne (Ne.symm q4.1)]; exact q3, q4⟩
          · obtain ⟨ps, hp', _⟩ := S1.draw.2 p hp
            rw [z, q2] at hp'
            cases hp'
        exact kq _ O1 _ (S1.kept kp dw) (e1.trans (vis_kp S1.drO kp)) (.int _)
      · cases h1
    · cases h1
  · cases h1
/-- for .. in d['cells'] -/
theorem fi_drC (hr : Room k X.A) (ho : FE X o fo) (hs : NoSl (.Constant (.str "cells") j1 p) := by intro _ _; rfl) : FI X tg (.Subscript o (.Constant (.str "cells") j1 p) pos) (drC fo) := fun F => ⟨fun pins s σ H R I q => by
  obtain ⟨O, ρ, w, ds, ρ', w', S, e, kq⟩ := q
  refine (pi_list (pe_drL (F := F) hr ho hs)).run pins s σ H R I ?_
  refine tE_then S e fun x O1 ρ1 w1 H1 r1 S1 e1 R1 h1 => ?_
  split at h1
  · cases h1
    obtain ⟨t, et, rfl, q1, q2, q3, q4, q5⟩ := draw_of S1 R1
    refine ⟨t.1, .ref t.2.2, rfl, DGet.k (k := .inr "cells") q1, t.2.2, rfl, ⟨_, .inl (.inl q3)⟩, kq _ O1 H1 S1 e1 fun i O H e tr hc => ?_⟩
    have s' : SqL X.K H t.2.2 (w'.cells.map V.int) := .inl (.inl (by rw [q5]; exact hc t et))
    refine ⟨fun d h => ?_, fun h => ⟨_, s', by simpa using Nat.le_of_eq h⟩⟩
    rw [List.getElem?_map] at h
    cases q : w'.cells[i]? with
    | none =>
      rw [q] at h
      cases h
    | some n =>
      rw [q] at h
      cases h
      have hv : (w'.cells.map V.int)[i]? = some (.int n) := by rw [List.getElem?_map, q]; rfl
      refine ⟨⟨_, .int n, s', hv⟩, fun x H' y => ?_⟩
      obtain ⟨rfl, y⟩ := y
      have z := y _ s'
      rw [hv] at z
      cases z
      exact ⟨Ex.refl _, .int _⟩
  · cases h1⟩
/-- d[key] = e -/
theorem fs_drSet {key : Str} {f : W → Int → W} (hr : Room k X.A) (ho : FE X o fo) (he : FE X e fe)
    (hf : ∀ a b w i, putK (drK a b w) (.inr key) (V.int i) = drK a b (f w i) ∧ (f w i).wide = w.wide ∧ (f w i).cells = w.cells)
    (hs : swapsWith e (some (.Subscript o (.Constant (.str key) j1 p) pos')) pos.line X.env = pure false := by rfl) : FS X (.Assign [.Subscript o (.Constant (.str key) j1 p) pos'] e pos) (drSet f fe fo) := fun F =>
  PS.wk (ps_dput (hu_of hr) (ho F) pe_str (he F) hs) fun E σ H q => by
  obtain ⟨O, ρ, w, fl, ρ', w', S, e, kq⟩ := q
  refine tE_then S e fun v O1 ρ1 w1 H1 r1 S1 e1 R1 h1 => ?_
  refine tE_then S1 h1 fun x O2 ρ2 w2 H2 r2 S2 e2 R2 h2 => ?_
  split at h2
  · rename_i i
    cases h2
    cases R1
    obtain ⟨t, et, rfl, q1, q2, q3, q4⟩ := draw_of S2 R2
    obtain ⟨f1, f2, f3⟩ := hf t.2.1 t.2.2 w2 i
    refine ⟨t.1, _, rfl, DPut.k (k := .inr key) q1 (show 4 < sizeLine by decide), ?_⟩
    rw [f1]
    have n1 : t.2.1 ≠ t.1 := fun z => by
      rw [z, q1] at q2
      cases q2
    have n2 : t.2.2 ≠ t.1 := fun z => by
      rw [z, q1] at q3
      cases q3
    have kp : Kp F.dr H2 (upd H2 t.1 (.dK (drK t.2.1 t.2.2 (f w2 i)))) := fun b u hb nb => by
      have z : b ≠ t.1 := fun z => nb (by rw [z]; exact Dr.mem1 et)
      rw [upd_ne z]
      exact hb
    have dw : DrawAt F.dr (f w2 i) (upd H2 t.1 (.dK (drK t.2.1 t.2.2 (f w2 i)))) := by
      refine ⟨fun t' e' => ?_, tabs_upd S2.draw.2 (fun p hp z => ?_) q1 (fun _ z => nomatch z)⟩
      · rw [et] at e'
        cases e'
        exact ⟨upd_same, by rw [upd_ne n1, f2]; exact q2, by rw [upd_ne n2, f3]; exact q3, q4.1, by rw [f3]; exact q4.2⟩
      · obtain ⟨ps, hp', _⟩ := S2.draw.2 p hp
        rw [z, q1] at hp'
        cases hp'
    exact kq _ O2 _ (S2.kept kp dw) ((e1.trans e2).trans (vis_kp S2.drO kp))
  · cases h2
end
end FD

end sec_FD14
section sec_FD15
set_option maxRecDepth 100000
set_option maxHeartbeats 5000000
/-! FD15: more of arithmetic; the def that begins the draws; the law. -/
namespace FD
open PySem L2
variable [Tabl]
open PyProof.Rows (envOfC)
section
variable {X : Cx}
def powI (i j : Int) : Option RV := if 0 ≤ j ∧ j ≤ 1000000 ∧ i.natAbs < 2 ^ 64 then some (.sh (.int (i ^ j.toNat))) else none
theorem opD_pow : OpR X (binaryOp .Pow) (rP2 (ct X) (intD powI)) := opD_int op_pow fun i j r e => by
  unfold powI at e
  split at e
  · rename_i h
    cases e
    exact ⟨h, _, rfl, fun _ _ _ => .int _⟩
  · cases e
def negD : D → Option RV
  | .int i => some (.sh (.int (-i)))
  | _ => none
theorem unD_neg : UnR X (unaryOp .USub) (rP1 (ct X) negD) := by
  intro pins s σ H x v Q I rx h
  obtain ⟨da, O, d1, r, hO, P, eg, q⟩ := h
  unfold negD at eg
  split at eg
  · cases eg
    exact un_neg pins s σ H x v Q I rx ⟨_, P.int, q _ _ (Ex.refl _) (.int _)⟩
  · cases eg
def absD : List D → Option RV
  | [.int i] => some (.sh (.int (if i < 0 then -i else i)))
  | _ => none
theorem bD_abs : CallR X (.builtin "abs") (rPure (ct X) absD) := by
  intro pins s σ H xs us Q I r h
  obtain ⟨da, O, ds, rv, hO, p, eg, q⟩ := h
  unfold absD at eg
  split at eg
  · cases eg
    obtain ⟨v, rfl, P⟩ := p.one
    obtain rfl := P.int
    exact call_abs pins s σ H _ us Q I r ⟨_, rfl, q _ _ (Ex.refl _) (.int _)⟩
  · cases eg
/-- {key: value}, both written -/
theorem fe_dicS {key : Str} {i : Int} {j1 j2 : Nat} {p1 p2 pos : Pos} : FE X (.Dict [some (.Constant (.str key) j1 p1)] [.Constant (.int i) j2 p2] pos) (pureM (.fr (.dic [(.str key, .int i)]))) := fun F => PE.wk (pe_disp (pps_cons pe_str pe_int pps_nil) rfl rfl (by simp) (by simp)) fun σ H Q h => by
  obtain ⟨O, ρ, w, r, ρ', w', S, e, k⟩ := h
  cases e
  intro p np
  refine ⟨upd_same, [(.inr key, .int i)], rfl, by simp, ?_⟩
  have e2 : upd (upd H p (.dK [])) p (.dK (mergeK [] [((.inr key : Key), V.int i)])) = upd H p (.dK [(.inr key, .int i)]) := by
    funext b
    by_cases z : b = p
    · rw [z, upd_same, upd_same]
      rfl
    · rw [upd_ne z, upd_ne z, upd_ne z]
  rw [e2]
  have x2 : Ex H (upd H p (.dK [(.inr key, .int i)])) := Ex.new np
  obtain ⟨S3, n3, k3⟩ := S.hide np x2 upd_same
  exact k _ O _ (S.grow x2) (vis_mono x2) ⟨p, _, rfl, n3, S3, upd_same, .inr (.inl ⟨[(.inr key, .int i)], [(.str key, .int i)], rfl, rfl, .cons (k := .inr key) (.int i) .nil⟩), k3⟩
end

/-! ### the def that begins the draws -/
def offD : Dr := ⟨none, []⟩
def asInt : D → Option Int
  | .int i => some i
  | _ => none
def asInts : List D → Option (List Int)
  | [] => some []
  | d :: r => match asInt d with
    | some i => (asInts r).map (i :: ·)
    | none => none
theorem asInts_some : ∀ {ds : List D} {is : List Int}, asInts ds = some is → ds = is.map D.int
  | [], _, h => by
    cases h
    rfl
  | d :: r, _, h => by
    unfold asInts at h
    split at h
    · rename_i b e
      cases q : asInts r with
      | none =>
        rw [q] at h
        cases h
      | some bs =>
        rw [q] at h
        cases h
        rw [asInts_some q]
        unfold asInt at e
        split at e
        · cases e
          rfl
        · cases e
    · cases h
theorem asInts_map : ∀ (is : List Int), asInts (is.map D.int) = some is
  | [] => rfl
  | b :: r => by
    rw [List.map_cons]
    unfold asInts
    rw [asInts_map r]
    rfl
theorem ne_keys : ((("wide" : Str) = "cells") = False ∧ (("wide" : Str) = "rest") = False ∧ (("wide" : Str) = "turn") = False) ∧ ((("cells" : Str) = "rest") = False ∧ (("cells" : Str) = "turn") = False ∧ (("rest" : Str) = "turn") = False) := by
  refine ⟨⟨?_, ?_, ?_⟩, ?_, ?_, ?_⟩ <;> exact eq_false (by decide +kernel)
theorem merge4 (a b c d : V) : mergeK [] [((.inr "wide" : Key), a), (.inr "cells", b), (.inr "rest", c), (.inr "turn", d)] = [(.inr "wide", a), (.inr "cells", b), (.inr "rest", c), (.inr "turn", d)] := by
  obtain ⟨⟨h1, h2, h3⟩, h4, h5, h6⟩ := ne_keys
  simp [mergeK, putK, Sum.inr.injEq, h1, h2, h3, h4, h5, h6]
/-- the wide numbers and the cells that come of the script -/
def begD (n : Nat) (f1 : M Fl) (f2 : M RV) (i : Nat) (ns : List Int) : Option (List Int × List Int) := match f1 (startE n [.scr ns]) ⟨[], [], 0, 0⟩ with
  | some (.nx, ρ, w) => (match ownL ρ i, f2 ρ w with
    | some _, some (.fr (.lst cs), ρ2, _) => (match ownL ρ2 i with
      | some ws => (match asInts ws with
        | some wi => (match asInts cs with
          | some ci => some (wi, ci)
          | none => none)
        | none => none)
      | none => none)
    | _, _ => none)
  | _ => none
def spB (c : Ct) (beg : List Int → Option (List Int × List Int)) : Sp := fun vs H Q _ => ∃ a ns wi ci, vs = [.ref a] ∧ SqL c.K H a (ns.map V.int) ∧ LamX.Tabs Tabl.T H ∧ beg ns = some (wi, ci) ∧
  ∀ (t : Addr × Addr × Addr) H', H t.1 = none → H t.2.1 = none → H t.2.2 = none → Kp offD H H' → LamX.Tabs Tabl.T H' → H' t.1 = some (.dK (drK t.2.1 t.2.2 ⟨wi, ci, 0, 0⟩)) → H' t.2.1 = some (.lst (wi.map V.int)) → H' t.2.2 = some (.lst (ci.map V.int)) → t.2.1 ≠ t.2.2 → Q (.ref t.1) H'
section
variable {P : Program} {w : World} {K : PySem.W.Frag} {mg : Str → Option Value} {base : Heap}
theorem offD_as : offD.as = Tabl.T.map (·.1) := rfl
theorem begun_ok {x qual : Str} {st : Stmt} {f : Addr} {fd : FuncData} {N ps : List Str} {k i : Nat} {f1 : M Fl} {f2 : M RV} {st1 : Stmt} {e2 : Expr} {y : Str} {j1 j2 j3 j4 j5 j6 : Nat} {q1 q2 q3 q4 q5 q6 q7 q8 q9 : Pos} (F : Fun K x qual st f fd) (S : FnScope N ps (defScope st)) (hps : ps.length = 1)
    (hbd : defBody st = [st1, .Return (some (.Dict [some (.Constant (.str "wide") j1 q1), some (.Constant (.str "cells") j2 q2), some (.Constant (.str "rest") j3 q3), some (.Constant (.str "turn") j4 q4)] [.Name y q5, e2, .Constant (.int 0) j5 q6, .Constant (.int 0) j6 q7] q8)) q9])
    (hb1 : ∀ (cdv : Value) (A : Around) (outer : List PySem.Env) (s : Shared) (H : Hp) (E : XK), Room k (A.deeper (envOfC qual (defScope st) s.heap.objs.size f cdv)) → FS (cxOf CX0 P w K mg base N qual (defScope st) f cdv A outer s H E).nox st1 f1)
    (hb2 : ∀ (cdv : Value) (A : Around) (outer : List PySem.Env) (s : Shared) (H : Hp) (E : XK), Room k (A.deeper (envOfC qual (defScope st) s.heap.objs.size f cdv)) → FE (cxOf CX0 P w K mg base N qual (defScope st) f cdv A outer s H E).nox e2 f2)
    (hy : N[i]? = some y) (hyv : Vis (defScope st) y) (hd : (y == ("__debug__" : Str)) = false) (hcd : (y == ("__classdict__" : Str)) = false) :
    FnOk P w K mg base CX0 (k + 1) f fd ps (spB ⟨K, mg⟩ (begD N.length f1 f2 i)) := by
  obtain ⟨oc, od, kV, doc, pm, an, cdv, ctt, osl, rfl, lk, hcdd⟩ := F.ex
  refine fn_of lk hcdd S (fun _ _ _ _ h => ?_) fun A outer s H vs Q E hr h => ?_
  · obtain ⟨a, ns, wi, ci, rfl, _⟩ := h
    rw [hps]
    rfl
  · obtain ⟨a, ns, wi, ci, rfl, hS, hT, hb, q⟩ := h
    rw [hbd]
    refine ⟨_, PSs.nox (pss_cons (hb1 cdv A outer s H E hr ⟨offD, Tabl.T.map (·.1), H⟩) (pss_one (ps_ret (pe_disp (pps_cons pe_str (pe_var (i := i) hy hyv hd hcd) (pps_cons pe_str (hb2 cdv A outer s H E hr ⟨offD, Tabl.T.map (·.1), H⟩) (pps_cons pe_str pe_int (pps_cons pe_str pe_int pps_nil)))) rfl rfl (by simp) (by simp))))), ?_⟩
    have d0 : DrawAt offD ⟨[], [], 0, 0⟩ H := ⟨(fun t e => nomatch (show (none : Option (Addr × Addr × Addr)) = some t from e)), hT⟩
    have tr0 : ∀ a ∈ Tabl.T.map (·.1), ∃ o, H a = some o ∧ NT o := fun a ha => d0.mem (by rw [offD_as]; exact ha)
    have nT : ∀ {b : Addr} {u : HO}, Rd H b u → (∀ ps, u ≠ .tbl ps) → b ∉ Tabl.T.map (·.1) := fun {b u} hr hn z => by
      obtain ⟨p, hp, rfl⟩ := List.mem_map.mp z
      obtain ⟨ps, e, _⟩ := hT p hp
      rcases hr with h | ⟨o, h⟩
      · rw [e] at h
        cases h
        exact hn _ rfl
      · rw [e] at h
        cases h
    have hS' : SqL K (vis (Tabl.T.map (·.1)) H) a (ns.map V.int) := by
      rcases hS with h | h
      · have na := nT h (fun _ z => nomatch z)
        rcases h with h | ⟨o, h⟩
        · exact .inl (.inl (by rw [vis_out na]; exact h))
        · exact .inl (.inr ⟨o, by rw [vis_out na]; exact h⟩)
      · exact .inr h
    have S0 : SR ⟨K, mg⟩ ⟨offD, Tabl.T.map (·.1), H⟩ (Tabl.T.map (·.1)) (startE N.length [.scr ns]) ⟨[], [], 0, 0⟩ (L2.start N [V.ref a]) H := start_sr (fun a ha => by rw [offD_as] at ha; exact ha) tr0 d0 (.cons (.scr hS') .nil)
    unfold begD at hb
    split at hb
    · rename_i ρ1 w1 e1
      refine ⟨Tabl.T.map (fun x : Addr × Str => x.1), startE N.length [.scr ns], ⟨[], [], 0, 0⟩, .nx, ρ1, w1, S0, e1, fun σ1 O1 H1 S1 x1 => ?_⟩
      split at hb
      · rename_i ws0 cs ρ2 w2 e0 e2
        split at hb
        · rename_i ws e3
          split at hb
          · rename_i wi' e4
            split at hb
            · rename_i ci' e5
              cases hb
              obtain rfl := asInts_some e4
              obtain rfl := asInts_some e5
              intro p np
              have x2 : Ex H1 (upd H1 p (.dK [])) := Ex.new np
              have S2 := S1.grow x2
              have nO1 : p ∉ O1 := fun z => by
                obtain ⟨o, h, _⟩ := S1.trk p z
                rw [np] at h
                cases h
              obtain ⟨a1, xs1, g1, _, _⟩ := own_obj S2 e0
              have hp2 : vis O1 (upd H1 p (.dK [])) p = some (.dK []) := by rw [vis_out nO1]; exact upd_same
              refine ⟨.ref a1, g1, O1, ρ1, w1, .fr (.lst (ci.map D.int)), ρ2, w2, S2, e2, fun v O3 H3 S3 x3 R3 => ?_⟩
              obtain ⟨a2, o2, rfl, n2, S4, g2, ob, _⟩ := R3
              have hp3 : H3 p = some (.dK []) := vis_ex _ _ (x3 _ _ hp2)
              obtain ⟨a1', o1, k1, k2, k3, k4, k5⟩ := S3.own i _ (ownL_some e3)
              rw [g1] at k1
              cases k1
              have l1 : o1 = .lst (wi.map V.int) := by
                rcases k5 with ⟨xs, es, rfl, z, r⟩ | ⟨_, _, _, z, _⟩ | ⟨_, _, _, z, _⟩ | ⟨_, _, _, _, _, _, z, _⟩
                · cases z
                  rw [r.ints_inv]
                · cases z
                · cases z
                · cases z
              have l2 : o2 = .lst (ci.map V.int) := by
                rcases ob with ⟨xs, es, rfl, z, r⟩ | ⟨_, _, _, z, _⟩ | ⟨_, _, _, z, _⟩ | ⟨_, _, _, _, _, _, z, _⟩
                · cases z
                  rw [r.ints_inv]
                · cases z
                · cases z
                · cases z
              subst l1
              subst l2
              have n12 : a1 ≠ a2 := fun z => n2 (z ▸ k2)
              have np1 : a1 ≠ p := fun z => by
                rw [z, hp3] at k4
                cases k4
              have np2 : a2 ≠ p := fun z => by
                rw [z, hp3] at g2
                cases g2
              refine ⟨hp3, [(.inr "wide", .ref a1), (.inr "cells", .ref a2), (.inr "rest", .int 0), (.inr "turn", .int 0)], rfl, by simp, ?_⟩
              rw [merge4]
              have hp0 : H p = none := by
                cases z : H p with
                | none => rfl
                | some o =>
                  by_cases m : p ∈ offD.as
                  · obtain ⟨o', z', _⟩ := S1.trk p (S1.sub p (S1.drs p m))
                    rw [np] at z'
                    cases z'
                  · have z' := S1.base p o z m
                    rw [np] at z'
                    cases z'
              refine q (p, a1, a2) _ hp0 (S3.new a1 k2 k3) (S4.new a2 List.mem_cons_self fun z => n2 (S3.sub a2 z)) (fun b o hb nb => ?_) (tabs_upd S3.draw.2 (fun t ht z => ?_) hp3 (fun _ z => nomatch z)) upd_same (by rw [upd_ne np1]; exact k4) (by rw [upd_ne np2]; exact g2) n12
              · have z1 := S1.base b o hb nb
                rw [upd_ne (ne_of_none z1 np)]
                exact S3.base b o hb nb
              · obtain ⟨ps, hp', _⟩ := S3.draw.2 t ht
                rw [z, hp3] at hp'
                cases hp'
            · cases hb
          · cases hb
        · cases hb
      · cases hb
    · cases hb
end
end FD

end sec_FD15
section sec_LG
set_option maxRecDepth 100000
set_option maxHeartbeats 5000000
/-! LG: a def that is run where no repr is under way, and the law as such a def. -/
namespace LG
open PySem PySem.Spec PyProof.Rows L2 LamX
section
variable {P : Program} {w : World} {K : PySem.W.Frag} {mg mb : Str → Option Value} {base : Heap}
/-- what f promises to a caller that stands in A -/
def Runs (P : Program) (w : World) (K : PySem.W.Frag) (mg : Str → Option Value) (base : Heap) (A : Around) (f : Addr) (fd : FuncData) (ps : List Str) (sp : Sp) : Prop :=
  ∀ (outer : List Env) (s : Shared) (H : Hp) (args : Args) (us : List Value) (vs : List V) (Q : VK) (E : XK),
    Env0 P w K mg base A outer s H → BindsTo s fd args (ps.zip us) → Vals vs us → sp vs H Q E → codeAny (model P w) A (.call (.ref f) args) (CR CX0 outer P w H s Q E) s
structure FnG (P : Program) (w : World) (K : PySem.W.Frag) (mg : Str → Option Value) (base : Heap) (k : Nat) (f : Addr) (fd : FuncData) (ps : List Str) (sp : Sp) : Prop where
  len : ∀ vs H Q E, sp vs H Q E → vs.length = ps.length
  runs : ∀ A, Room k A → A.guards = some [] → Runs P w K mg base A f fd ps sp
theorem runs_of {A : Around} {k : Nat} {f : Addr} {name qual : Str} {params : Arguments} {body : List Stmt} {scope : Scope} {dV kV doc pm cdv ct oc : Value} {an od : Option Addr} {osl : Array (Option Value)} {N ps : List Str} {sp : Sp}
    (lk : K.lookup f = some ⟨oc, od, .func (PySem.W.fnOf name qual params body scope dV kV doc pm an cdv ct), osl⟩) (code : PySem.W.codeIn K cdv qual = true) (S : FnScope N ps scope) (len : ∀ vs H Q E, sp vs H Q E → vs.length = ps.length) (room : Room (k + 1) A)
    (go : ∀ (outer : List Env) (s : Shared) (H : Hp) (vs : List V) (Q : VK) (E : XK), sp vs H Q E → ∃ t, PSs (cxOf CX0 P w K mg base N qual scope f cdv A outer s H E) body t ∧ t { nx := fun _ H2 => Q .non H2, rt := Q } (L2.start N vs) H) :
    Runs P w K mg base A f (PySem.W.fnOf name qual params body scope dV kV doc pm an cdv ct) ps sp := by
  intro outer s H args us vs Q E e0 bt rel sat
  obtain ⟨t, good, pre⟩ := go outer s H vs Q E sat
  have stays : ∀ b o, base.get? b = some o → s.heap.get? b = some o := fun b o q => (e0.bs b o q).1
  have inK := e0.mod.kin.keeps stays
  apply codeAny_call_function room.depth (inK f _ lk) rfl S.co S.gen rfl (PySem.W.codeRec_of inK code)
  apply bt
  refine wpAny_newFunctionEnv_cells S.kind ?par ?run
  case par =>
    intro q hq
    cases S.par q.1 (List.of_mem_zip hq).1 with
    | inl z => exact Or.inl z
    | inr z => exact Or.inr ⟨z, PySem.W.cellsFrom_some _ _ _ (Or.inl z)⟩
  case run =>
    intro env he s1 made
    cases he
    constructor
    · exact (e0.mod.nolimit.keeps stays).keeps made.toInCall.keep
    apply codeAny_func
    apply wpAny_mono (good.run [] s1 _ H _ (inv_start S room.hd e0 (len _ _ _ _ sat) rel made) pre)
    · intro fl s2 out
      match fl, out with
      | .ret u, ⟨v, _, H2, J, rv, q⟩ => exact ⟨v, H2, J.os, J.bare, J.base, J.hok, rv, q⟩
      | .next, ⟨_, H2, J, q⟩ => exact ⟨V.non, H2, J.os, J.bare, J.base, J.hok, (rfl : RelV V.non Value.none), q⟩
      | .brk, ⟨_, _, _, q⟩ => exact absurd q id
      | .cont, ⟨_, _, _, q⟩ => exact absurd q id
    · intro _ _ z
      exact z
/-! ### the state in which the law is called -/
/-- a table of code objects that is still empty -/
abbrev tabO : Obj := { cls := .none, data := .fields #[] }
abbrev lstO (vs : List Value) : Obj := { cls := .type "list", data := .seq vs.toArray }
structure Stage (P : Program) (w : World) (K : PySem.W.Frag) (mg mb : Str → Option Value) (cs : List (Addr × Addr)) (s : Shared) (a : Addr) (vs : List Value) (ns : List Int) : Prop where
  frag : K.In s.heap
  main : s.heap.Ns mainGlobals mg
  blt : s.heap.Ns builtinsNs mb
  boot : ∀ x : Str, x ≠ "__name__" → mb x = bootBuiltins x
  lim : s.heap.NoLimit
  gens : s.gens = #[]
  tab : ∀ p ∈ cs, s.heap.get? p.2 = some tabO
  out : ∀ p ∈ cs, K.lookup p.2 = none
  codes : ∀ p ∈ cs, PySem.W.CodeHd s.heap p.1 p.2
  bm : ∃ (bm : Addr) (ob : Obj), mg "__builtins__" = some (.ref bm) ∧ bm ≠ builtinsNs ∧ s.heap.get? bm = some ob ∧ ob.cls = .type "module" ∧ ob.dict = some builtinsNs ∧ ob.data = .plain
  lst : s.heap.get? a = some (lstO vs)
  nums : IntsAre vs ns
  most : ns.length ≤ sizeLine
/-- what is tracked at the start: the tables, and the script unless it is a constant -/
def seen (K : PySem.W.Frag) (cs : List (Addr × Addr)) (a : Addr) (vs : List Value) (ns : List Int) : Hp := fun b =>
  if (cs.any fun p => p.2 == b) = true then some (.tbl #[]) else if b = a ∧ (K.lookup a).isNone = true then some (.frz (lstO vs) (.lst (ns.map V.int))) else none
def tracksData : Data → Bool
  | .seq _ _ => true
  | .fields vs => vs.isEmpty
  | _ => false
variable {cs : List (Addr × Addr)} {s : Shared} {a : Addr} {vs : List Value} {ns : List Int}
theorem anyT {b : Addr} : (cs.any fun p => p.2 == b) = true ↔ ∃ p ∈ cs, p.2 = b := by simp [List.any_eq_true]
theorem seen_inv {b : Addr} {u : HO} (h : seen K cs a vs ns b = some u) : ((∃ p ∈ cs, p.2 = b) ∧ u = .tbl #[]) ∨ (b = a ∧ K.lookup a = none ∧ u = .frz (lstO vs) (.lst (ns.map V.int))) := by
  unfold seen at h
  split at h
  · rename_i z
    cases h
    exact Or.inl ⟨anyT.mp z, rfl⟩
  · split at h
    · rename_i z
      cases h
      exact Or.inr ⟨z.1, Option.isNone_iff_eq_none.mp z.2, rfl⟩
    · cases h
theorem seen_tab {p : Addr × Addr} (hp : p ∈ cs) : seen K cs a vs ns p.2 = some (.tbl #[]) := if_pos (anyT.mpr ⟨p, hp, rfl⟩)
namespace Stage
variable (Z : Stage P w K mg mb cs s a vs ns)
include Z
theorem obj {b : Addr} {u : HO} (h : seen K cs a vs ns b = some u) : ∃ o, s.heap.get? b = some o ∧ tracksData o.data = true ∧ K.lookup b = none := by
  cases seen_inv h with
  | inl z =>
    obtain ⟨⟨p, hp, rfl⟩, _⟩ := z
    exact ⟨tabO, Z.tab p hp, rfl, Z.out p hp⟩
  | inr z => exact ⟨lstO vs, by rw [z.1]; exact Z.lst, rfl, by rw [z.1]; exact z.2.1⟩
theorem off {b : Addr} {o : Obj} (e : s.heap.get? b = some o) (n : tracksData o.data = false) : seen K cs a vs ns b = none := by
  match q : seen K cs a vs ns b with
  | none => rfl
  | some u =>
    obtain ⟨o2, e2, t2, _⟩ := Z.obj q
    rw [e] at e2
    injection e2 with e2
    rw [e2, t2] at n
    cases n
theorem low {b : Addr} {o : Obj} (e : s.heap.get? b = some o) (n : tracksData o.data = false) : (hidT s.heap (seen K cs a vs ns)).get? b = some o := hidT_get e (Z.off e n)
theorem lowNs {b : Addr} {m : Str → Option Value} (h : s.heap.Ns b m) : (hidT s.heap (seen K cs a vs ns)).Ns b m := by
  obtain ⟨o, es, ep, e, d, rest⟩ := h
  exact ⟨o, es, ep, Z.low e (by rw [d]; rfl), d, rest⟩
theorem lowK : K.In (hidT s.heap (seen K cs a vs ns)) := by
  intro b o e
  apply hidT_get (Z.frag b o e)
  match q : seen K cs a vs ns b with
  | none => rfl
  | some u =>
    obtain ⟨_, _, _, n⟩ := Z.obj q
    rw [n] at e
    cases e
theorem lowMod : L2.Mod K mg (hidT s.heap (seen K cs a vs ns)) := by
  obtain ⟨mc, l1, l2⟩ := Z.lim
  exact ⟨Z.lowK, Z.lowNs Z.main, ⟨mb, Z.lowNs Z.blt, Z.boot⟩, ⟨mc, Z.lowNs l1, l2⟩⟩
theorem lowTab {p : Addr × Addr} (hp : p ∈ cs) : TabB (hidT s.heap (seen K cs a vs ns)) mg p.1 p.2 := by
  obtain ⟨om, em, pm, eM, dM, _⟩ := Z.main
  have tp := Z.tab p hp
  refine ⟨?code, ?bm, ?ne⟩
  case code =>
    obtain ⟨o, us, x1, x2, x3, x4, x5, x6, x7, e, c1, c2, c3, rest⟩ := Z.codes p hp
    refine ⟨o, us, x1, x2, x3, x4, x5, x6, x7, Z.low e ?_, c1, c2, c3, rest⟩
    rw [c2]
    show us.isEmpty = false
    have : 11 < us.size := (Array.getElem?_eq_some_iff.mp c3).1
    rw [Array.isEmpty, decide_eq_false_iff_not]
    omega
  case bm =>
    obtain ⟨bm, ob, b1, b2, b3, b4, b5, b6⟩ := Z.bm
    refine ⟨bm, ob, b1, b2, ?_, ?_, Z.low b3 (by rw [b6]; rfl), b4, b5, b6⟩
    · rintro rfl
      rw [eM] at b3
      injection b3 with b3
      rw [← b3, dM] at b6
      cases b6
    · rintro rfl
      rw [tp] at b3
      injection b3 with b3
      rw [← b3] at b6
      cases b6
  case ne =>
    intro z
    rw [z, tp] at eM
    injection eM with eM
    rw [← eM] at dM
    cases dM
theorem heapOk : HOk P w (seen K cs a vs ns) s.heap := by
  intro b u h
  cases seen_inv h with
  | inl z =>
    obtain ⟨⟨p, hp, rfl⟩, rfl⟩ := z
    exact Z.tab p hp
  | inr z =>
    obtain ⟨rfl, _, rfl⟩ := z
    exact ⟨Z.lst, by simpa using Z.most, vs, _, vals_ints Z.nums, Z.lst⟩
theorem script : SqL K (seen K cs a vs ns) a (ns.map V.int) := by
  match q : K.lookup a with
  | none =>
    refine Or.inl (Or.inr ⟨lstO vs, ?_⟩)
    unfold seen
    rw [if_neg, if_pos ⟨rfl, by rw [q]; rfl⟩]
    intro z
    obtain ⟨p, hp, rfl⟩ := anyT.mp z
    have := Z.lst
    rw [Z.tab p hp] at this
    cases this
  | some o =>
    have e := Z.frag a o q
    rw [Z.lst] at e
    injection e with e
    subst e
    exact Or.inr ⟨_, vs.toArray, _, q, rfl, rfl, rfl, by simpa [Z.nums.length] using Z.most, by simpa using vals_ints Z.nums⟩
theorem env : Env0 P w K mg (hidT s.heap (seen K cs a vs ns)) callerA [] s (seen K cs a vs ns) where
  frames := rfl
  mod := Z.lowMod
  bs := fun b o e => of_hidT e
  bsz := Nat.le_of_eq (hidT_size _ _)
  funs := trivial
  frf := by
    intro b hb
    cases hb
  hok := Z.heapOk
  bare := .of_eq Z.gens
/-- the law, called: nothing that stood there is changed but the tables, which grow -/
theorem called {k : Nat} {fa : Addr} {fd : FuncData} {x : Str} {sp : Sp} (room : Room k callerA) (F : ∀ base : Heap, K.In base → base.Ns mainGlobals mg → (∀ p ∈ cs, TabB base mg p.1 p.2) → FnG P w K mg base k fa fd [x] sp)
    (hb : ∀ (s : Shared) (u : Value), BindsTo s fd ⟨[u], []⟩ [(x, u)]) (sat : ∀ H : Hp, (∀ p ∈ cs, H p.2 = some (.tbl #[])) → SqL K H a (ns.map V.int) → sp [.ref a] H (fun v _ => v = .bl true) fun _ _ _ => False) :
    codeAny (model P w) callerA (.call (.ref fa) ⟨[.ref a], []⟩) (fun r s2 => r = .ok (.ret (.bool true)) ∧ OldK s.heap s2.heap ∧ s2.os = s.os ∧ AllBare s2.gens) s := by
  have go := (F _ Z.lowK (Z.lowNs Z.main) fun p hp => Z.lowTab hp).runs callerA room rfl [] s _ ⟨[.ref a], []⟩ [.ref a] [.ref a] _ _ Z.env (hb s (.ref a)) (.cons rfl .nil) (sat _ (fun p hp => seen_tab hp) Z.script)
  apply codeAny_mono go
  intro r s2 end2
  match r, end2 with
  | .error _, z => exact absurd z id
  | .ok .next, z => exact absurd z id
  | .ok .brk, z => exact absurd z id
  | .ok .cont, z => exact absurd z id
  | .ok (.ret u), ⟨v, H2, os, bare, un, hok, rv, q⟩ =>
    have q : v = .bl true := q
    rw [q] at rv
    have ru : u = Value.bool true := rv
    have grown : ∀ p ∈ cs, ∃ more : Array Value, s2.heap.get? p.2 = some { cls := .none, data := .fields more } := fun p hp => by
      obtain ⟨more, z⟩ := un.tbls p.2 #[] (seen_tab hp)
      exact ⟨_, hok p.2 _ z⟩
    have same : ∀ b o, (¬ ∃ p ∈ cs, p.2 = b) → s.heap.get? b = some o → s2.heap.get? b = some o := fun b o nb e => by
      match t : seen K cs a vs ns b with
      | none => exact un.keep b o e t (by intro z; cases z) (by intro z; cases z)
      | some u2 =>
        cases seen_inv t with
        | inl z => exact absurd z.1 nb
        | inr z =>
          obtain ⟨rfl, _, rfl⟩ := z
          have f1 := (Z.heapOk _ _ t).1
          have f2 := (hok _ _ (un.frzs _ _ _ t)).1
          rw [e] at f1
          rw [f1]
          exact f2
    refine ⟨by rw [ru], ⟨fun b o e => ?_, fun b o e => ?_⟩, os, bare⟩
    · by_cases hb : ∃ p ∈ cs, p.2 = b
      · obtain ⟨p, hp, rfl⟩ := hb
        obtain ⟨new, hm⟩ := grown p hp
        rw [Z.tab p hp] at e
        injection e with e
        subst e
        refine Or.inr (Or.inl ⟨((Z.codes p hp).tab (Z.tab p hp)).isCodeTable, rfl, #[], new, rfl, ?_⟩)
        rw [Array.empty_append]
        exact hm
      · exact Or.inl (same b o hb e)
    · by_cases hb : ∃ p ∈ cs, p.2 = b
      · obtain ⟨p, hp, rfl⟩ := hb
        obtain ⟨new, hm⟩ := grown p hp
        exact ⟨_, hm⟩
      · exact ⟨o, same b o hb e⟩
end Stage
end
/-- a script of at most n numbers, none of them beyond the bits -/
def ScriptOk (n : Nat) (ns : List Int) : Prop := ns.length ≤ n ∧ ∀ z ∈ ns, Builtin.Int.intBits z ≤ 1048576
/-- what the law's row asks of the head -/
def LawG (l : PySem.W.OpenLaw) (w : World) (K : PySem.W.Frag) (k n : Nat) (x : Str) (mg : Str → Option Value) (fa : Addr) (h : Heap) : Prop :=
  ∃ (fd : FuncData) (cs : List (Addr × Addr)) (sp : Sp), (∀ p ∈ cs, h.get? p.2 = some tabO ∧ K.lookup p.2 = none ∧ PySem.W.CodeHd h p.1 p.2) ∧ (∀ (s : Shared) (u : Value), BindsTo s fd ⟨[u], []⟩ [(x, u)]) ∧
    (∀ (H : Hp) (a : Addr) (ns : List Int), ScriptOk n ns → (∀ p ∈ cs, H p.2 = some (.tbl #[])) → SqL K H a (ns.map V.int) → sp [.ref a] H (fun v _ => v = .bl true) fun _ _ _ => False) ∧
    ∀ base : Heap, K.In base → base.Ns mainGlobals mg → (∀ p ∈ cs, TabB base mg p.1 p.2) → FnG l.prog w K mg base k fa fd [x] sp
theorem walkG {l : PySem.W.OpenLaw} {n k : Nat} {q : Program} {loose : List Str} {XP : (Str → Option Value) → Heap → Prop} {YP : World → Heap → Prop} {d : DefRec} {K : Params → PySem.W.Frag} {x : Str} (most : l.most = some n) (small : n ≤ sizeLine)
    (plain : d.params.defaults = []) (room : Room k callerA) (frag : ∀ (w : World) (h : Heap), YP w h → (K w.params).In h)
    (row : ∀ (w : World) (mg : Str → Option Value) (fa : Addr) (h : Heap), YP w h → (K w.params).In h → h.Ns mainGlobals mg → mg d.name = some (.ref fa) → LawG l w (K w.params) k n x mg fa h) :
    PySem.W.WalkO q loose XP YP l.row.toRowW d [] fun g us => PySem.call g us := by
  apply Att.attach_callB most plain
  intro w s0 s mg mb fa o pm cd doc a vs ns G Y _ _ _ name lst nums len bits gens
  obtain ⟨fd, cs, sp, hcs, hb, sat, F⟩ := row w mg fa _ Y (frag w _ Y) G.T.g name
  have Z : Stage l.prog w (K w.params) mg mb cs s a vs ns := ⟨frag w _ Y, G.T.g, G.T.b, G.T.builtins, G.T.nolimit, gens, fun p hp => (hcs p hp).1, fun p hp => (hcs p hp).2.1, fun p hp => (hcs p hp).2.2, G.T.bmain, lst, nums, Nat.le_trans len small⟩
  exact Z.called room F hb fun H hH hS => sat H a ns ⟨len, bits⟩ hH hS
end LG

end sec_LG
section sec_FD16
set_option maxRecDepth 100000
set_option maxHeartbeats 5000000
/-! FD16: the law. -/
namespace FD
open PySem L2
variable [Tabl]
open PyProof.Rows (envOfC)
def endT : Option (Fl × Env × W) → Bool
  | some (.ret (.sh (.bl b)), _, _) => b
  | _ => false
def denL (n : Nat) (beg : List Int → Option (List Int × List Int)) (fr : M Fl) (ns : List Int) : Bool := match beg ns with
  | some (wi, ci) => endT (fr ((startE n [.scr ns]).set 1 (some (.val .draw))) ⟨wi, ci, 0, 0⟩)
  | none => false
def spL (c : Ct) (den : List Int → Bool) : Sp := fun vs H Q _ => ∃ a ns, vs = [.ref a] ∧ SqL c.K H a (ns.map V.int) ∧ LamX.Tabs Tabl.T H ∧ den ns = true ∧ ∀ H', Q (.bl true) H'
section
variable {P : Program} {w : World} {K : PySem.W.Frag} {mg : Str → Option Value} {base : Heap}
theorem FSs.any {X : Cx} {sts : List Stmt} {f : M Fl} (h : FSs X sts f) : PSs X sts (fun E σ H => ∃ F, tS (ct X) F f E σ H) := ⟨fun pins s σ H E I ⟨F, q⟩ => (h F).run pins s σ H E I q⟩
theorem law_ok {st : Stmt} {f g : Addr} {fd fdg : FuncData} {N psg : List Str} {k kg : Nat} {fr : M Fl} {rest : List Stmt} {x y : Str} {beg : List Int → Option (List Int × List Int)} {p1 p2 p3 p4 p5 : Pos} (F : Fun K "law" "law" st f fd) (S : FnScope N [x] (defScope st))
    (FB : FnOk P w K mg base CX0 kg g fdg psg (spB ⟨K, mg⟩ beg)) (mb : mg y = some (.ref g)) (kpb : PySem.W.keepIn K (.ref g) = true) (bb : Binds K fdg psg []) (hkg : kg ≤ k)
    (hbd : defBody st = .Assign [.Name "_law_draw" p1] (.Call (.Name y p2) [.Name x p3] [] p4) p5 :: rest)
    (hN0 : N[0]? = some x) (hN1 : N[1]? = some ("_law_draw" : Str)) (v0 : Vis (defScope st) x) (l1 : Loc (defScope st) ("_law_draw" : Str)) (hgy : (defScope st).names.lookup y = some .globalImplicit)
    (hxd : (x == ("__debug__" : Str)) = false) (hxc : (x == ("__classdict__" : Str)) = false) (hyd : (y == ("__debug__" : Str)) = false)
    (hrest : ∀ (cdv : Value) (A : Around) (outer : List PySem.Env) (s : Shared) (H : Hp) (E : XK), Room k (A.deeper (envOfC "law" (defScope st) s.heap.objs.size f cdv)) → A.guards = some [] → FSs (cxOf CX0 P w K mg base N "law" (defScope st) f cdv A outer s H E).nox rest fr) :
    LG.FnG P w K mg base (k + 1) f fd [x] (spL ⟨K, mg⟩ (denL N.length beg fr)) := by
  obtain ⟨oc, od, kV, doc, pm, an, cdv, ctt, osl, rfl, lk, hcdd⟩ := F.ex
  have len : ∀ vs H Q E, spL ⟨K, mg⟩ (denL N.length beg fr) vs H Q E → vs.length = [x].length := fun vs H Q E h => by
    obtain ⟨a, ns, rfl, _⟩ := h
    rfl
  refine ⟨len, fun A room hG => LG.runs_of lk hcdd S len room fun outer s H vs Q E h => ?_⟩
  · have hr := room.deeper (envOfC "law" (defScope st) s.heap.objs.size f cdv)
    obtain ⟨a, ns, rfl, hS, hT, hb, q⟩ := h
    rw [hbd]
    refine ⟨_, PSs.nox (pss_cons (ps_set (i := 1) (X := (cxOf CX0 P w K mg base N "law" (defScope st) f cdv A outer s H E).nox) S.nd hN1 l1 (pe_call FB (hr.mono hkg) hgy mb kpb bb .nil pass0 (pa_cons (pe_var (i := 0) hN0 v0 hxd hxc) pa_nil) hyd) rfl (.inl rfl)) (hrest cdv A outer s H E hr hG).any), ?_⟩
    unfold denL at hb
    split at hb
    · rename_i wi ci eb
      refine ⟨.ref a, rfl, ?_⟩
      refine ⟨a, ns, wi, ci, rfl, hS, hT, eb, fun t H' f1 f2 f3 kp hT' g1 g2 g3 ne => ?_⟩
      have dw : DrawAt ⟨some t, ci⟩ ⟨wi, ci, 0, 0⟩ H' := ⟨fun t' e => by
        cases e
        exact ⟨g1, g2, g3, ne, rfl⟩, hT'⟩
      have nT : ∀ {b : Addr} {u : HO}, Rd H b u → (∀ ps, u ≠ .tbl ps) → b ∉ Tabl.T.map (·.1) := fun {b u} hr hn z => by
        obtain ⟨p, hp, rfl⟩ := List.mem_map.mp z
        obtain ⟨ps, e, _⟩ := hT p hp
        rcases hr with h | ⟨o, h⟩
        · rw [e] at h
          cases h
          exact hn _ rfl
        · rw [e] at h
          cases h
      have nA : ∀ {b : Addr} {u : HO}, Rd H b u → (∀ ps, u ≠ .tbl ps) → b ∉ (⟨some t, ci⟩ : Dr).as := fun {b u} hr hn z => by
        have nb : H b ≠ none := by
          rcases hr with h | ⟨o, h⟩ <;> (rw [h]; simp)
        rcases List.mem_append.mp z with z | z
        · have z : b = t.1 ∨ b = t.2.1 ∨ b = t.2.2 := by simpa [Dr.ds] using z
          rcases z with z | z | z
          · rw [z] at nb
            exact nb f1
          · rw [z] at nb
            exact nb f2
          · rw [z] at nb
            exact nb f3
        · exact nT hr hn z
      have hS' : SqL K (vis (⟨some t, ci⟩ : Dr).as H') a (ns.map V.int) := by
        rcases hS with h | h
        · have n1 := nA h (fun _ z => nomatch z)
          have n2 := nT h (fun _ z => nomatch z)
          rcases h with h | ⟨o, h⟩
          · exact .inl (.inl (by rw [vis_out n1]; exact kp _ _ h n2))
          · exact .inl (.inr ⟨o, by rw [vis_out n1]; exact kp _ _ h n2⟩)
        · exact .inr h
      have S0 : SR ⟨K, mg⟩ ⟨⟨some t, ci⟩, (⟨some t, ci⟩ : Dr).as, H'⟩ (⟨some t, ci⟩ : Dr).as (startE N.length [.scr ns]) ⟨wi, ci, 0, 0⟩ (L2.start N [V.ref a]) H' := start_sr (fun _ h => h) (fun b hb => dw.mem hb) dw (.cons (.scr hS') .nil)
      have S1 := S0.setVal 1 (v := .ref t.1) (d := .draw) (.draw rfl)
      cases er : fr ((startE N.length [.scr ns]).set 1 (some (.val .draw))) ⟨wi, ci, 0, 0⟩ with
      | none =>
        rw [er] at hb
        cases hb
      | some z =>
        obtain ⟨fl, ρ', w'⟩ := z
        rw [er] at hb
        refine ⟨⟨⟨some t, ci⟩, (⟨some t, ci⟩ : Dr).as, H'⟩, _, _, _, fl, ρ', w', S1, er, ?_⟩
        cases fl with
        | ret r =>
          cases r with
          | sh d =>
            cases d with
            | bl b =>
              have hb : b = true := hb
              subst hb
              intro v σ O H2 S2 R
              cases R
              exact q H2
            | _ => cases hb
          | _ => cases hb
        | _ => cases hb
    · cases hb
end
end FD

end sec_FD16
section sec_FD17
set_option maxRecDepth 100000
set_option maxHeartbeats 5000000
/-! FD17: short forms for printed derivations. -/
namespace FD
open PySem L2
open PyProof.Rows (envOfC)
theorem bo_len : bootBuiltins "len" = some (.builtin "len") := by decide +kernel
theorem bo_min : bootBuiltins "min" = some (.builtin "min") := by decide +kernel
theorem bo_max : bootBuiltins "max" = some (.builtin "max") := by decide +kernel
theorem bo_sum : bootBuiltins "sum" = some (.builtin "sum") := by decide +kernel
theorem bo_all : bootBuiltins "all" = some (.builtin "all") := by decide +kernel
theorem bo_sorted : bootBuiltins "sorted" = some (.builtin "sorted") := by decide +kernel
theorem bo_abs : bootBuiltins "abs" = some (.builtin "abs") := by decide +kernel
theorem bo_repr : bootBuiltins "repr" = some (.builtin "repr") := by decide +kernel
theorem bo_int : bootBuiltins "int" = some (.type "int") := by decide +kernel
theorem bo_list : bootBuiltins "list" = some (.type "list") := by decide +kernel
theorem bo_tuple : bootBuiltins "tuple" = some (.type "tuple") := by decide +kernel
abbrev subD : D → D → Option RV := intD (i0 fun i j => .int (i - j))
abbrev ltD : D → D → Option RV := ordD (fun i j => decide (i < j)) ltS
abbrev gtD : D → D → Option RV := intD (i0 fun i j => .bl (decide (j < i)))
abbrev geD : D → D → Option RV := intD (i0 fun i j => .bl (decide (j ≤ i)))
abbrev leD : D → D → Option RV := intD (i0 fun i j => .bl (decide (i ≤ j)))
abbrev retM (f : M RV) : M Fl := bindM f fun r => pureM (.ret r)
abbrev exprM (f : M RV) : M Fl := bindM f fun _ => pureM .nx
abbrev setM' (i : Nat) (f : M RV) : M Fl := bindM f fun r => nxM (asgM i r)
abbrev parSt (is : List Nat) (f : M (List RV)) : M Fl := bindM f fun rs => nxM (parM is rs)
abbrev asgSt (f : M RV) (g : D → M Unit) : M Fl := bindM f fun r => bindM (escR r) fun d => nxM (g d)
abbrev propM (cn : Str) (den : List D → W → Option (RV × W)) (fo : M RV) : M RV := bindM fo fun r => bindM (escR r) fun d => match d with
  | .ins c' gs => if c' = cn then runD den [d] else failM
  | _ => failM
abbrev meth0M (cn m : Str) (den : List D → W → Option (RV × W)) (dd : List D) (fo : M RV) : M RV := bindM fo fun r => bindM (selfR cn m r) fun d => runD den (d :: dd)
abbrev jExpr (f : M RV) (g : MJ) : MJ := fun gs => bindM f fun _ => g gs
abbrev jFld (f : Str) (fe : M RV) (g : MJ) : MJ := fun gs => bindM fe fun r => bindM (escR r) fun d => if gs.length < 900 then g (putD f d gs) else failM
variable [Tabl]
/-- a module's constant -/
structure GlbD (K : PySem.W.Frag) (mg : Str → Option Value) (x : Str) (d : D) : Prop where
  ex : ∃ u v, mg x = some u ∧ RelV v u ∧ ∀ da G, Rep ⟨K, mg⟩ da G v d
structure IsiC (K : PySem.W.Frag) (mg : Str → Option Value) (cn : Str) (bt : String → Bool) (ic : List (Str × Bool)) : Prop where
  ex : ∃ C, mg cn = some (.ref C) ∧ KndD K mg (fun t b => PySem.W.kitOne K t (.ref C) = some b) bt ic
section
variable {X : Cx} {x cn : Str} {d : D} {pos p p2 : Pos} {a : Expr} {fa : M RV} {bt : String → Bool} {ic : List (Str × Bool)}
theorem fe_gl (h : GlbD X.K X.mg x d) (hg : Gl X x) (hd : (x == ("__debug__" : Str)) = false := by decide) : FE X (.Name x pos) (pureM (.sh d)) := by
  obtain ⟨u, v, h1, h2, h3⟩ := h.ex
  exact fe_glob hg h1 h2 h3 hd
theorem fe_isiC (h : IsiC X.K X.mg cn bt ic) (hgc : Gl X cn) (hm : X.mg "isinstance" = none) (hg : Gl X "isinstance") (ha : FE X a fa) (hd : (cn == ("__debug__" : Str)) = false := by decide)
    (hs : starEach [a, .Name cn p2] X.env = (false, eval a X.env) :: starEach [.Name cn p2] X.env := by rfl) (hs2 : starEach [.Name cn p2] X.env = (false, eval (.Name cn p2) X.env) :: starEach [] X.env := by rfl) (hpl : (backTo pos (starEach [.Name cn p2] X.env)).any (·.1) = false := by rfl) :
    FE X (.Call (.Name "isinstance" p) [a, .Name cn p2] [] pos) (isiM bt ic fa) := by
  obtain ⟨C, h1, h2⟩ := h.ex
  exact fe_isi hg hm (pe_glob (v := .ref C) hgc h1 rfl hd) (.own C) h2 ha hs hs2 hpl
end
theorem kk1 : (("wide" : Str) = "rest") = False := eq_false (by decide +kernel)
theorem kk2 : (("wide" : Str) = "turn") = False := eq_false (by decide +kernel)
theorem kk3 : (("cells" : Str) = "rest") = False := eq_false (by decide +kernel)
theorem kk4 : (("cells" : Str) = "turn") = False := eq_false (by decide +kernel)
theorem kk5 : (("rest" : Str) = "turn") = False := eq_false (by decide +kernel)
theorem kk6 : (("turn" : Str) = "rest") = False := eq_false (by decide +kernel)
theorem v_rest : ∀ a b w, valV (drK a b w) (.inr "rest") = some (.int (W.rest w)) := fun a b w => by simp [valV, drK, kk1, kk3]
theorem v_turn : ∀ a b w, valV (drK a b w) (.inr "turn") = some (.int (W.turn w)) := fun a b w => by simp [valV, drK, kk2, kk4, kk5]
theorem p_rest : ∀ a b w i, putK (drK a b w) (.inr "rest") (V.int i) = drK a b { w with rest := i } ∧ ({ w with rest := i } : W).wide = w.wide ∧ ({ w with rest := i } : W).cells = w.cells := fun a b w i => ⟨by simp [putK, drK, kk1, kk3, kk6], rfl, rfl⟩
theorem p_turn : ∀ a b w i, putK (drK a b w) (.inr "turn") (V.int i) = drK a b { w with turn := i } ∧ ({ w with turn := i } : W).wide = w.wide ∧ ({ w with turn := i } : W).cells = w.cells := fun a b w i => ⟨by simp [putK, drK, kk2, kk4, kk5], rfl, rfl⟩
section
variable {P : Program} {w : World} {K : PySem.W.Frag} {mg : Str → Option Value} {base : Heap}
/-- a def whose code object is known -/
theorem def_okT {x qual : Str} {st : Stmt} {f ca : Addr} {fd : FuncData} {N ps : List Str} {k : Nat} {fb : M Fl} (F : Fun K x qual st f fd) (S : FnScope N ps (defScope st))
    (hcd : ∀ oc od kV doc pm an cdv ct osl, K.lookup f = some ⟨oc, od, .func (PySem.W.fnOf x qual (defArgs st) (defBody st) (defScope st) .none kV doc pm an cdv ct), osl⟩ → cdv = .ref ca)
    (hb : ∀ (A : Around) (outer : List PySem.Env) (s : Shared) (H : Hp) (E : XK), Room k (A.deeper (envOfC qual (defScope st) s.heap.objs.size f (.ref ca))) → FSs (cxOf CX0 P w K mg base N qual (defScope st) f (.ref ca) A outer s H E).nox (defBody st) fb) :
    FnOk P w K mg base CX0 (k + 1) f fd ps (spD ⟨K, mg⟩ ps.length (denB N.length fb)) := by
  have F0 := F
  obtain ⟨oc, od, kV, doc, pm, an, cdv, ctt, osl, e, lk, _⟩ := F.ex
  rw [e] at lk
  have ec := hcd _ _ _ _ _ _ _ _ _ lk
  refine def_okE (cd := .ref ca) F0 S (fun oc od kV doc pm an cdv ct osl h => ?_) hb
  exact hcd _ _ _ _ _ _ _ _ _ h
end
end FD

end sec_FD17
section sec_FD18
set_option maxRecDepth 100000
set_option maxHeartbeats 5000000
/-! FD18: zip; is None; chains; sums and greatest numbers; a sign's place in a text; list times number. -/
namespace FD
open PySem L2
variable [Tabl]
/-! ### zip -/
def zip2D (a b : List D) : List D := (a.zip b).map fun p => .tup [p.1, p.2]
def zip3D (a b c : List D) : List D := (a.zip (b.zip c)).map fun p => .tup [p.1, p.2.1, p.2.2]
def srcD : D → Option (List D)
  | .lst ds => some ds
  | .tup ds => some ds
  | .str x => some (x.cps.toList.map fun c => .str ⟨#[c]⟩)
  | _ => none
def zipM (fa : M (List RV)) : M (List D) := bindM fa fun rs => bindM (escAll rs) fun ds => fun ρ w => match ds with
  | [a, b] => (match srcD a with
    | some xs => (match srcD b with | some ys => some (zip2D xs ys, ρ, w) | none => none)
    | none => none)
  | [a, b, c] => (match srcD a with
    | some xs => (match srcD b with
      | some ys => (match srcD c with | some zs => some (zip3D xs ys zs, ρ, w) | none => none)
      | none => none)
    | none => none)
  | _ => none
theorem src_of {c : Ct} {da : Option Addr} {G : Hp} {v : V} {d : D} {xs : List D} (h : Rep c da G v d) (e : srcD d = some xs) : ∃ (r : ZP.Src) (vs : List V), r.of v ∧ (∀ H, Ex G H → r.has c.K H vs) ∧ RepAll c da G vs xs := by
  cases h with
  | tup s r =>
    cases e
    exact ⟨.tup _, _, rfl, fun H x => .inl (.inl (x _ _ s)), r⟩
  | lst s r =>
    cases e
    exact ⟨.lst _, _, rfl, fun H x => x.sl (SqL.of s), r⟩
  | str x =>
    cases e
    refine ⟨.txt x, _, rfl, fun H _ => rfl, ?_⟩
    have : ∀ l : List Nat, RepAll c da G (l.map fun c => V.str ⟨#[c]⟩) (l.map fun c => D.str ⟨#[c]⟩) := fun l => by
      induction l with
      | nil => exact .nil
      | cons a l ih => exact .cons (.str _) ih
    exact this _
  | _ => cases e
section
variable {c : Ct} {dr : Dr} {G : Hp}
theorem wk_new {O : List Addr} {H : Hp} {T : Addr} {vs : List V} {ds : List D} (r : RepAll c dr.da G vs ds) (e : Ex G (vis O H)) (tr : ∀ a ∈ O, ∃ o, H a = some o ∧ NT o) (nT : H T = none) : Ex H (upd H T (.tup vs)) ∧ Rep c dr.da (vis O (upd H T (.tup vs))) (.ref T) (.tup ds) := by
  have nO : T ∉ O := fun z => by
    obtain ⟨o, h, _⟩ := tr T z
    rw [nT] at h
    cases h
  have xn : Ex H (upd H T (.tup vs)) := Ex.new nT
  refine ⟨xn, .tup (xs := vs) ?_ (r.mono (e.trans (vis_mono xn)))⟩
  rw [vis_out nO]
  exact upd_same
theorem wk_zip2 {r1 r2 : ZP.Src} {xs ys : List V} {ds es : List D} (h1 : ∀ H, Ex G H → r1.has c.K H xs) (h2 : ∀ H, Ex G H → r2.has c.K H ys) (k1 : RepAll c dr.da G xs ds) (k2 : RepAll c dr.da G ys es) : Wk c dr (ZP.Iz2 c.K r1 r2) G (zip2D ds es) := fun i O H e tr _ => by
  have l1 := k1.length
  have l2 := k2.length
  have q1 := h1 H (e.trans vis_ex)
  have q2 := h2 H (e.trans vis_ex)
  refine ⟨fun d h => ?_, fun h => ?_⟩
  · unfold zip2D at h
    rw [List.getElem?_map] at h
    cases q : (ds.zip es)[i]? with
    | none => rw [q] at h; cases h
    | some p =>
      rw [q] at h
      cases h
      obtain ⟨g1, g2⟩ := List.getElem?_zip_eq_some.mp q
      obtain ⟨x, x1, x2⟩ := k1.get g1
      obtain ⟨y, y1, y2⟩ := k2.get g2
      refine ⟨⟨xs, ys, x, y, q1, q2, x1, y1⟩, fun v H' yy => ?_⟩
      obtain ⟨T, x', y', rfl, nT, rfl, hx, hy⟩ := yy
      have ex := hx xs q1
      have ey := hy ys q2
      rw [x1] at ex
      rw [y1] at ey
      cases ex
      cases ey
      exact wk_new (.cons x2 (.cons y2 .nil)) e tr nT
  · unfold zip2D at h
    rw [List.length_map, List.length_zip] at h
    exact ⟨xs, ys, q1, q2, by omega, by omega, by omega⟩
theorem wk_zip3 {r1 r2 r3 : ZP.Src} {xs ys zs : List V} {ds es fs : List D} (h1 : ∀ H, Ex G H → r1.has c.K H xs) (h2 : ∀ H, Ex G H → r2.has c.K H ys) (h3 : ∀ H, Ex G H → r3.has c.K H zs) (k1 : RepAll c dr.da G xs ds) (k2 : RepAll c dr.da G ys es) (k3 : RepAll c dr.da G zs fs) : Wk c dr (ZP.Iz3 c.K r1 r2 r3) G (zip3D ds es fs) := fun i O H e tr _ => by
  have l1 := k1.length
  have l2 := k2.length
  have l3 := k3.length
  have q1 := h1 H (e.trans vis_ex)
  have q2 := h2 H (e.trans vis_ex)
  have q3 := h3 H (e.trans vis_ex)
  refine ⟨fun d h => ?_, fun h => ?_⟩
  · unfold zip3D at h
    rw [List.getElem?_map] at h
    cases q : (ds.zip (es.zip fs))[i]? with
    | none => rw [q] at h; cases h
    | some p =>
      rw [q] at h
      cases h
      obtain ⟨g1, g⟩ := List.getElem?_zip_eq_some.mp q
      obtain ⟨g2, g3⟩ := List.getElem?_zip_eq_some.mp g
      obtain ⟨x, x1, x2⟩ := k1.get g1
      obtain ⟨y, y1, y2⟩ := k2.get g2
      obtain ⟨z, z1, z2⟩ := k3.get g3
      refine ⟨⟨xs, ys, zs, x, y, z, q1, q2, q3, x1, y1, z1⟩, fun v H' yy => ?_⟩
      obtain ⟨T, x', y', z', rfl, nT, rfl, hx, hy, hz⟩ := yy
      have ex := hx xs q1
      have ey := hy ys q2
      have ez := hz zs q3
      rw [x1] at ex
      rw [y1] at ey
      rw [z1] at ez
      cases ex
      cases ey
      cases ez
      exact wk_new (.cons x2 (.cons y2 (.cons z2 .nil))) e tr nT
  · unfold zip3D at h
    rw [List.length_map, List.length_zip, List.length_zip] at h
    exact ⟨xs, ys, zs, q1, q2, q3, by omega, by omega, by omega, by omega⟩
end
section
variable {X : Cx} {a b e e2 e3 : Expr} {es elts : List Expr} {pos p tpos apos : Pos} {kk : Nat} {fa fb fc fo fe : M RV} {fs : M (List RV)}
theorem fi_zip2 (hg : Gl X "zip") (hm : X.mg "zip" = none) (ha : FA X [e, e2] fs) (hs : starEach [e, e2] X.env = (false, eval e X.env) :: starEach [e2] X.env := by rfl) (hpl : (backTo pos (starEach [e2] X.env)).any (·.1) = false := by rfl) : FI X (.Tuple elts kk tpos) (.Call (.Name "zip" p) [e, e2] [] pos) (zipM fs) := fun F => ⟨fun pins s σ H R I q => by
  obtain ⟨O, ρ, w, ds, ρ', w', S, e, k⟩ := q
  refine (ZP.pi_zip2 hg hm (ha.run F) hs hpl).run pins s σ H R I ?_
  refine tA_then S e fun vs O1 ρ1 w1 H1 rs S1 e1 R1 f1 h1 => ?_
  have hl := ha.len _ _ _ _ _ f1
  obtain ⟨ds1, ρ2, w2, h2, h3⟩ := bindM_some h1
  obtain ⟨rfl, O2, S2, k2, r2⟩ := escAll_ok S1 R1 h2
  have hv : vs.length = 2 := by rw [← R1.length, hl]; rfl
  have hd : ds1.length = 2 := by rw [← r2.length, hv]
  match vs, hv, ds1, hd, r2, h3 with
  | [v1, v2], _, [d1, d2], _, .cons ra (.cons rb .nil), h3 =>
    dsimp only at h3
    split at h3
    · rename_i xs ex
      split at h3
      · rename_i ys ey
        cases h3
        obtain ⟨s1, vs1, o1, g1, k1'⟩ := src_of ra ex
        obtain ⟨s2, vs2, o2, g2, k2'⟩ := src_of rb ey
        exact ⟨v1, v2, s1, s2, vs1, vs2, rfl, o1, o2, g1 _ vis_ex, g2 _ vis_ex, k _ O2 H1 S2 (e1.trans k2) (wk_zip2 g1 g2 k1' k2')⟩
      · cases h3
    · cases h3⟩
theorem fi_zip3 (hg : Gl X "zip") (hm : X.mg "zip" = none) (ha : FA X [e, e2, e3] fs) (hs : starEach [e, e2, e3] X.env = (false, eval e X.env) :: starEach [e2, e3] X.env := by rfl) (hpl : (backTo pos (starEach [e2, e3] X.env)).any (·.1) = false := by rfl) : FI X (.Tuple elts kk tpos) (.Call (.Name "zip" p) [e, e2, e3] [] pos) (zipM fs) := fun F => ⟨fun pins s σ H R I q => by
  obtain ⟨O, ρ, w, ds, ρ', w', S, e, k⟩ := q
  refine (ZP.pi_zip3 hg hm (ha.run F) hs hpl).run pins s σ H R I ?_
  refine tA_then S e fun vs O1 ρ1 w1 H1 rs S1 e1 R1 f1 h1 => ?_
  have hl := ha.len _ _ _ _ _ f1
  obtain ⟨ds1, ρ2, w2, h2, h3⟩ := bindM_some h1
  obtain ⟨rfl, O2, S2, k2, r2⟩ := escAll_ok S1 R1 h2
  have hv : vs.length = 3 := by rw [← R1.length, hl]; rfl
  have hd : ds1.length = 3 := by rw [← r2.length, hv]
  match vs, hv, ds1, hd, r2, h3 with
  | [v1, v2, v3], _, [d1, d2, d3], _, .cons ra (.cons rb (.cons rc .nil)), h3 =>
    dsimp only at h3
    split at h3
    · rename_i xs ex
      split at h3
      · rename_i ys ey
        split at h3
        · rename_i zs ez
          cases h3
          obtain ⟨s1, vs1, o1, g1, k1'⟩ := src_of ra ex
          obtain ⟨s2, vs2, o2, g2, k2'⟩ := src_of rb ey
          obtain ⟨s3, vs3, o3, g3, k3'⟩ := src_of rc ez
          exact ⟨v1, v2, v3, s1, s2, s3, vs1, vs2, vs3, rfl, o1, o2, o3, g1 _ vis_ex, g2 _ vis_ex, g3 _ vis_ex, k _ O2 H1 S2 (e1.trans k2) (wk_zip3 g1 g2 g3 k1' k2' k3')⟩
        · cases h3
      · cases h3
    · cases h3⟩

/-! ### is None -/
def isNonD (no : Bool) : D → Option RV
  | .non => some (.sh (.bl (!no)))
  | .ty _ => none
  | _ => some (.sh (.bl no))
theorem RepP.isNon {c : Ct} {da : Option Addr} {O : List Addr} {H : Hp} {v : V} {d : D} {no : Bool} {r : RV} (h : RepP c da O H v d) (e : isNonD no d = some r) : r = .sh (.bl (if no then !decide (v = .non) else decide (v = .non))) := by
  cases d with
  | non => cases e; rw [h.non]; cases no <;> rfl
  | bl b => cases e; rw [h.bl]; cases no <;> rfl
  | int i => cases e; rw [h.int]; cases no <;> rfl
  | str x => cases e; rw [h.str]; cases no <;> rfl
  | ty n => cases e
  | draw =>
    cases e
    rcases h with h | ⟨a, o, rfl, _, _⟩
    · cases h; cases no <;> rfl
    · cases no <;> rfl
  | tup ds => cases e; obtain ⟨a, xs, rfl, _⟩ := h.tup; cases no <;> rfl
  | ktup ds => cases e; obtain ⟨a, xs, rfl, _⟩ := h.ktup; cases no <;> rfl
  | lst ds => cases e; obtain ⟨a, xs, rfl, _⟩ := h.lst; cases no <;> rfl
  | scr ns => cases e; obtain ⟨a, rfl, _⟩ := h.scr; cases no <;> rfl
  | dic ps => cases e; obtain ⟨a, kvs, rfl, _⟩ := h.dic; cases no <;> rfl
  | dit ps => cases e; obtain ⟨a, kvs, rfl, _⟩ := h.dit; cases no <;> rfl
  | fdit ps => cases e; obtain ⟨a, ob, kvs, rfl, _⟩ := h.fdit; cases no <;> rfl
  | ins cn gs => cases e; obtain ⟨a, C, dx, fs, rfl, _⟩ := h.ins; cases no <;> rfl
theorem isN_read {c : Ct} {F : Fm} {no : Bool} {σ : L2.St} {H : Hp} {Q : VK} (h : tE c F (op1M (isNonD no) fa) σ H Q) : tE c F fa σ H fun x H1 => Q (.bl (if no then !decide (x = .non) else decide (x = .non))) H1 := by
  obtain ⟨O, ρ, w, r, ρ', w', S, e, k⟩ := h
  refine tE_then S e fun x O1 ρ1 w1 H1 r1 S1 e1 R1 h1 => ?_
  obtain ⟨d1, r', p1, eg, ez⟩ := lift1_some h1
  cases ez
  have z := (R1.hold.peek S1 p1).isNon eg
  subst z
  exact k _ O1 H1 S1 e1 (Rep.bl _)
theorem fc_isN {j : Nat} {pos' : Pos} (ha : FE X a fa) : FC X .Is a (.Constant .none j pos') pos (op1M (isNonD false) fa) :=
  ⟨fun F => PE.wk (pe_cmp (pc_isN (ha F)) (nobehind _ (by decide) (by decide))) fun σ H Q h => isN_read (no := false) h,
   fun F => PT.wk (pt_cmp (pc_isN (ha F)) (nobehind _ (by decide) (by decide))) fun σ H Q q => isN_read (no := false) (bool_read q)⟩
theorem fc_notN {j : Nat} {pos' : Pos} (ha : FE X a fa) : FC X .IsNot a (.Constant .none j pos') pos (op1M (isNonD true) fa) :=
  ⟨fun F => PE.wk (pe_cmp (pc_notN (ha F)) (nobehind _ (by decide) (by decide))) fun σ H Q h => isN_read (no := true) h,
   fun F => PT.wk (pt_cmp (pc_notN (ha F)) (nobehind _ (by decide) (by decide))) fun σ H Q q => isN_read (no := true) (bool_read q)⟩
end
end FD

end sec_FD18
section sec_FD19
set_option maxRecDepth 100000
set_option maxHeartbeats 5000000
/-! FD19: dicts whose keys are tuples of numbers and texts. -/
namespace FD
open PySem L2
variable [Tabl]
def asKey : D → Option Key
  | .int i => some (.inl i)
  | .str x => some (.inr x)
  | _ => none
def asKeys : List D → Option (List Key)
  | [] => some []
  | d :: r => match asKey d with
    | some k => (match asKeys r with | some ks => some (k :: ks) | none => none)
    | none => none
def keyT : D → Option (List Key)
  | .tup ds => asKeys ds
  | _ => none
theorem asKey_kD (k : Key) : asKey (kD k) = some k := by cases k <;> rfl
theorem asKeys_kD : ∀ ks : List Key, asKeys (ks.map kD) = some ks
  | [] => rfl
  | k :: ks => by
    rw [List.map_cons]
    unfold asKeys
    rw [asKey_kD, asKeys_kD ks]
theorem keyT_kD (ks : List Key) : keyT (.tup (ks.map kD)) = some ks := asKeys_kD ks
theorem asKey_inv {d : D} {k : Key} (h : asKey d = some k) : d = kD k := by
  cases d <;> first | (cases h; rfl) | cases h
theorem asKeys_inv : ∀ {ds : List D} {ks : List Key}, asKeys ds = some ks → ds = ks.map kD
  | [], _, h => by cases h; rfl
  | d :: r, _, h => by
    unfold asKeys at h
    split at h
    · rename_i k e
      split at h
      · rename_i ks e2
        cases h
        rw [asKey_inv e, asKeys_inv e2]
        rfl
      · cases h
    · cases h
theorem keyT_inv {d : D} {ks : List Key} (h : keyT d = some ks) : d = .tup (ks.map kD) := by
  cases d <;> first | (rw [asKeys_inv (show asKeys _ = some ks from h)]) | cases h
def valT (ps : List (D × D)) (k : List Key) : Option D := (ps.find? fun p => decide (keyT p.1 = some k)).map (·.2)
def putT (ps : List (D × D)) (k : List Key) (d : D) : List (D × D) := if (ps.any fun p => decide (keyT p.1 = some k)) = true then ps.map (fun p => if keyT p.1 = some k then (p.1, d) else p) else ps ++ [(.tup (k.map kD), d)]
section
variable {c : Ct} {da : Option Addr} {G : Hp}
theorem RepAll.keys : ∀ {vs : List V} {ks : List Key}, RepAll c da G vs (ks.map kD) → vs = ks.map kV
  | _, [], h => by cases h; rfl
  | _, k :: ks, h => by
    cases h with
    | cons a b =>
      rw [RepAll.keys b]
      cases k <;> cases a <;> rfl
theorem RepKT.val : ∀ {kvs : List (List Key × V)} {ps : List (D × D)}, RepKT c da G kvs ps → ∀ (k : List Key), (valV kvs k = none ∧ valT ps k = none) ∨ ∃ v d, valV kvs k = some v ∧ valT ps k = some d ∧ Rep c da G v d
  | _, _, .nil, k => .inl ⟨rfl, rfl⟩
  | _, _, .cons (k := k0) (v := v) (d := d) h r, k => by
    by_cases e : k0 = k
    · refine .inr ⟨v, d, valV_pos e, ?_, h⟩
      subst e
      simp [valT, List.find?_cons, keyT_kD]
    · rcases RepKT.val r k with ⟨h1, h2⟩ | ⟨v', d', h1, h2, h3⟩
      · refine .inl ⟨by rw [valV_neg e]; exact h1, ?_⟩
        simp only [valT, List.find?_cons, keyT_kD, Option.some.injEq, e, decide_false]
        exact h2
      · refine .inr ⟨v', d', by rw [valV_neg e]; exact h1, ?_, h3⟩
        simp only [valT, List.find?_cons, keyT_kD, Option.some.injEq, e, decide_false]
        exact h2
theorem RepKT.any : ∀ {kvs : List (List Key × V)} {ps : List (D × D)}, RepKT c da G kvs ps → ∀ (k : List Key), (kvs.any fun kv => decide (kv.1 = k)) = ps.any fun p => decide (keyT p.1 = some k)
  | _, _, .nil, k => rfl
  | _, _, .cons (k := k0) h r, k => by
    simp only [List.any_cons, keyT_kD, Option.some.injEq]
    rw [RepKT.any r k]
theorem RepKT.repl {v : V} {d : D} (h : Rep c da G v d) : ∀ {kvs : List (List Key × V)} {ps : List (D × D)}, RepKT c da G kvs ps → ∀ (k : List Key), RepKT c da G (kvs.map fun kv => if kv.1 = k then (kv.1, v) else kv) (ps.map fun p => if keyT p.1 = some k then (p.1, d) else p)
  | _, _, .nil, k => .nil
  | _, _, .cons (k := k0) q r, k => by
    simp only [List.map_cons, keyT_kD, Option.some.injEq]
    by_cases e : k0 = k
    · rw [if_pos e, if_pos e]
      exact .cons h (RepKT.repl h r k)
    · rw [if_neg e, if_neg e]
      exact .cons q (RepKT.repl h r k)
theorem RepKT.app {kvs ws : List (List Key × V)} {ps qs : List (D × D)} (h : RepKT c da G kvs ps) (h2 : RepKT c da G ws qs) : RepKT c da G (kvs ++ ws) (ps ++ qs) := by
  induction kvs generalizing ps with
  | nil => cases h; exact h2
  | cons kv kvs ih =>
    cases h with
    | cons a b => exact .cons a (ih b)
theorem RepKT.put {v : V} {d : D} {kvs : List (List Key × V)} {ps : List (D × D)} (r : RepKT c da G kvs ps) (k : List Key) (h : Rep c da G v d) : RepKT c da G (putK kvs k v) (putT ps k d) := by
  unfold putK putT
  rw [r.any k]
  split
  · exact r.repl h k
  · exact r.app (.cons h .nil)
theorem RepKT.length : ∀ {kvs : List (List Key × V)} {ps : List (D × D)}, RepKT c da G kvs ps → kvs.length = ps.length
  | _, _, .nil => rfl
  | _, _, .cons _ r => by simp [RepKT.length r]
end
/-- a dict that may be read -/
def pairsD : D → Option (List (D × D))
  | .dit ps => some ps
  | .fdit ps => some ps
  | _ => none
theorem RepP.pairs {c : Ct} {da : Option Addr} {O : List Addr} {H : Hp} {v : V} {d : D} {ps : List (D × D)} (h : RepP c da O H v d) (e : pairsD d = some ps) : ∃ a kvs, v = .ref a ∧ Rd H a (.dT kvs) ∧ RepKT c da (vis O H) kvs ps := by
  cases d with
  | dit qs =>
    cases e
    obtain ⟨a, kvs, rfl, q, r⟩ := h.dit
    exact ⟨a, kvs, rfl, .inl q, r⟩
  | fdit qs =>
    cases e
    obtain ⟨a, ob, kvs, rfl, q, r, _⟩ := h.fdit
    exact ⟨a, kvs, rfl, .inr ⟨ob, q⟩, r⟩
  | _ => cases e
theorem RepP.key {c : Ct} {da : Option Addr} {O : List Addr} {H : Hp} {v : V} {d : D} {ks : List Key} (h : RepP c da O H v d) (e : keyT d = some ks) : ∃ b, v = .ref b ∧ H b = some (.tup (ks.map kV)) := by
  have z := keyT_inv e
  subst z
  obtain ⟨a, xs, rfl, q, r⟩ := h.tupH
  rw [r.keys] at q
  exact ⟨a, rfl, vis_ex _ _ q⟩
theorem dget_of {c : Ct} {da da' : Option Addr} {O O' : List Addr} {H : Hp} {v y : V} {d k : D} {ps : List (D × D)} {ks : List Key} (h : RepP c da O H v d) (e : pairsD d = some ps) (hy : RepP c da' O' H y k) (ek : keyT k = some ks) : ∃ a o, v = .ref a ∧ DGet H a y o ∧ ((o = none ∧ valT ps ks = none) ∨ ∃ u d, o = some u ∧ valT ps ks = some d ∧ Rep c da (vis O H) u d) := by
  obtain ⟨a, kvs, rfl, q, r⟩ := h.pairs e
  obtain ⟨b, rfl, qb⟩ := hy.key ek
  refine ⟨a, _, rfl, .inr ⟨kvs, ks, b, q, rfl, qb, rfl⟩, ?_⟩
  exact r.val ks
section
variable {X : Cx} {a b e e2 o : Expr} {es : List Expr} {pos p p2 pos' apos cpos : Pos} {x : Str} {i k : Nat} {fa fb fo fk fv fe : M RV}
/-! ### d[k] -/
def dixD (d k : D) : Option RV := match pairsD d with
  | some ps => (match keyT k with | some ks => (valT ps ks).map .sh | none => none)
  | none => none
theorem dixD_some {d k : D} {r : RV} (h : dixD d k = some r) : ∃ ps ks v, pairsD d = some ps ∧ keyT k = some ks ∧ valT ps ks = some v ∧ r = .sh v := by
  unfold dixD at h
  split at h
  · rename_i ps e1
    split at h
    · rename_i ks e2
      cases q : valT ps ks with
      | none => rw [q] at h; cases h
      | some v => rw [q] at h; cases h; exact ⟨ps, ks, v, e1, e2, q, rfl⟩
    · cases h
  · cases h
theorem fe_dix (hr : Room k X.A) (ha : FE X a fa) (hb : FE X b fb) (hs : NoSl b := by intro _ _; rfl) : FE X (.Subscript a b pos) (op2M dixD fa fb) := fun F => PE.wk (pe_dget (by have := hr.un; omega) (ha F) (hb F) hs) fun σ H Q h => by
  obtain ⟨O, ρ, w, r, ρ', w', S, e, k⟩ := h
  refine tE_then S e fun x O1 ρ1 w1 H1 r1 S1 e1 R1 h1 => ?_
  refine tE_then S1 h1 fun y O2 ρ2 w2 H2 r2 S2 e2 R2 h2 => ?_
  obtain ⟨d1, d2, r', p1, p2, eg, ez⟩ := lift2_some h2
  cases ez
  obtain ⟨ps, ks, v, q1, q2, q3, rfl⟩ := dixD_some eg
  obtain ⟨a, o, rfl, g, hh⟩ := dget_of ((R1.hold.mono e2).peek S2 p1) q1 (R2.hold.peek S2 p2) q2
  rcases hh with ⟨_, z⟩ | ⟨u, d, rfl, z, rp⟩
  · rw [q3] at z; cases z
  · rw [q3] at z
    cases z
    exact ⟨a, u, rfl, g, k u O2 H2 S2 (e1.trans e2) rp⟩
/-! ### d.get(k, e) -/
def dgetM (fo fk fe : M RV) : M RV := bindM fo fun r1 => bindM fk fun r2 => bindM fe fun r3 => bindM (escR r3) fun z => lift2 (fun d k => match pairsD d with
  | some ps => (match keyT k with | some ks => some (.sh ((valT ps ks).getD z)) | none => none)
  | none => none) r1 r2
/-- the dict that is asked stands there from the start -/
def dictM (fo : M RV) : M RV := bindM fo fun r => fun ρ w => match peek ρ r with
  | some d => (match pairsD d with | some _ => some (r, ρ, w) | none => none)
  | none => none
theorem fe_dget2 (hr : Room k X.A) (ho : FE X o fo) (he : FE X e fk) (hf : FE X e2 fe) (m : M2 X o "get" apos e e2 cpos) : FE X (.Call (.Attribute o "get" apos) [e, e2] [] cpos) (dgetM (dictM fo) fk fe) := fun F => PE.wk (pe_dget2 (by have := hr.un; omega) (ho F) (he F) (hf F) m) fun σ H Q h => by
  obtain ⟨O, ρ, w, r, ρ', w', S, e, k⟩ := h
  obtain ⟨r1, ρ1, w1, e1, e2⟩ := bindM_some e
  refine tE_then S e1 fun x O1 ρ1' w1' H1 r1' S1 x1 R1 h1 => ?_
  split at h1
  · rename_i d pd
    split at h1
    · rename_i ps0 pp
      cases h1
      obtain ⟨a, kvs, ev, q, _⟩ := (R1.hold.peek S1 pd).pairs pp
      refine ⟨a, ev, .inr ⟨kvs, q⟩, ?_⟩
      refine tE_then S1 e2 fun y O2 ρ2 w2 H2 r2 S2 x2 R2 h2 => ?_
      refine tE_then S2 h2 fun z O3 ρ3 w3 H3 r3 S3 x3 R3 h3 => ?_
      obtain ⟨dz, ρ4, w4, h4, h5⟩ := bindM_some h3
      obtain ⟨rfl, O4, S4, k4, rz⟩ := escR_ok S3 R3.hold h4
      obtain ⟨d1, d2, r', p1, p2, eg, ez⟩ := lift2_some h5
      cases ez
      split at eg
      · rename_i ps e6
        split at eg
        · rename_i ks e7
          cases eg
          obtain ⟨a', ov, ev', g, hh⟩ := dget_of ((R1.hold.mono ((x2.trans x3).trans k4)).peek S4 p1) e6 ((R2.hold.mono (x3.trans k4)).peek S4 p2) e7
          rw [ev] at ev'
          cases ev'
          refine ⟨ov, g, ?_⟩
          rcases hh with ⟨rfl, z'⟩ | ⟨u, d, rfl, z', rp⟩
          · rw [z'] at k
            exact k z O4 H3 S4 (((x1.trans x2).trans x3).trans k4) rz
          · rw [z'] at k
            exact k u O4 H3 S4 (((x1.trans x2).trans x3).trans k4) rp
        · cases eg
      · cases eg
    · cases h1
  · cases h1
/-! ### k in d -/
def dinD (no : Bool) (k d : D) : Option RV := match pairsD d with
  | some ps => (match keyT k with | some ks => some (.sh (.bl (if no then !(valT ps ks).isSome else (valT ps ks).isSome))) | none => none)
  | none => none
theorem din_read {c : Ct} {F : Fm} {no : Bool} {σ : L2.St} {H : Hp} {Q : VK} (h : tE c F (op2M (dinD no) fa fb) σ H Q) : tE c F fa σ H fun y H1 => tE c F fb σ H1 fun x H2 => ∃ a o, x = .ref a ∧ DGet H2 a y o ∧ Q (.bl (if no then !o.isSome else o.isSome)) H2 := by
  obtain ⟨O, ρ, w, r, ρ', w', S, e, k⟩ := h
  refine tE_then S e fun x O1 ρ1 w1 H1 r1 S1 e1 R1 h1 => ?_
  refine tE_then S1 h1 fun y O2 ρ2 w2 H2 r2 S2 e2 R2 h2 => ?_
  obtain ⟨d1, d2, r', p1, p2, eg, ez⟩ := lift2_some h2
  cases ez
  unfold dinD at eg
  split at eg
  · rename_i ps q1
    split at eg
    · rename_i ks q2
      cases eg
      obtain ⟨a, ov, rfl, g, hh⟩ := dget_of (R2.hold.peek S2 p2) q1 ((R1.hold.mono e2).peek S2 p1) q2
      refine ⟨a, ov, rfl, g, ?_⟩
      have z : ov.isSome = (valT ps ks).isSome := by
        rcases hh with ⟨rfl, z'⟩ | ⟨u, d, rfl, z', _⟩ <;> rw [z'] <;> rfl
      rw [z]
      exact k _ O2 H2 S2 (e1.trans e2) (Rep.bl _)
    · cases eg
  · cases eg
/-! ### x[k] = v, x a slot's own dict -/
def ownT (ρ : Env) (i : Nat) : Option (List (D × D)) := match ρ[i]? with
  | some (some (.own (.dit ps))) => some ps
  | _ => none
theorem ownT_some {ρ : Env} {i : Nat} {ps : List (D × D)} (h : ownT ρ i = some ps) : ρ[i]? = some (some (.own (.dit ps))) := by
  unfold ownT at h
  split at h
  · rename_i e
    cases h
    exact e
  · cases h
def dputM (i : Nat) (fv fk : M RV) : M Fl := bindM fv fun r1 => bindM (escR r1) fun d => fun ρ0 w0 => (match ownT ρ0 i with
  | some _ => bindM fk (fun r2 => fun ρ w => match ownT ρ i with
    | some ps => (match peek ρ r2 with
      | some kd => (match keyT kd with
        | some ks => if ps.length < 1000000 then some (.nx, ρ.set i (some (.own (.dit (putT ps ks d)))), w) else none
        | none => none)
      | none => none)
    | none => none) ρ0 w0
  | none => none)
theorem own_dT {c : Ct} {F : Fm} {O : List Addr} {ρ : Env} {w : W} {σ : L2.St} {H : Hp} {ps : List (D × D)} (S : SR c F O ρ w σ H) (h : ownT ρ i = some ps) : ∃ a kvs, σ[i]? = some (some (V.ref a)) ∧ H a = some (.dT kvs) ∧ RepKT c F.dr.da (vis O H) kvs ps := by
  obtain ⟨a, o, h1, _, _, h4, h5⟩ := S.own i _ (ownT_some h)
  rcases h5 with ⟨_, _, _, e2, _⟩ | ⟨_, _, _, e2, _⟩ | ⟨kvs, qs, rfl, e2, r⟩ | ⟨_, _, _, _, _, _, e2, _⟩
  · cases e2
  · cases e2
  · cases e2
    exact ⟨a, kvs, h1, h4, r⟩
  · cases e2
theorem fs_dput (hr : Room k X.A) (hv : PE X (.Name x p) (tVar i)) (hk : FE X e fk) (he : FE X e2 fv) (hs : swapsWith e2 (some (.Subscript (.Name x p) e pos')) pos.line X.env = pure false := by rfl) : FS X (.Assign [.Subscript (.Name x p) e pos'] e2 pos) (dputM i fv fk) := fun F => PS.wk (ps_dput (by have := hr.un; omega) hv (hk F) (he F) hs) fun E σ H h => by
  obtain ⟨O, ρ, w, fl, ρ', w', S, e, k⟩ := h
  refine tE_then S e fun v O1 ρ1 w1 H1 r1 S1 e1 R1 h1 => ?_
  obtain ⟨d, ρ2, w2, h2, h3⟩ := bindM_some h1
  obtain ⟨rfl, O2, S2, k2, rd⟩ := escR_ok S1 R1.hold h2
  split at h3
  · rename_i ps0 e0
    obtain ⟨a, kvs0, s1, q0, _⟩ := own_dT S2 e0
    refine ⟨.ref a, s1, ?_⟩
    refine tE_then S2 h3 fun y O3 ρ3 w3 H3 r3 S3 e3 R3 h4 => ?_
    split at h4
    · rename_i ps e5
      split at h4
      · rename_i kd pk
        split at h4
        · rename_i ks ek
          split at h4
          · rename_i hl
            cases h4
            obtain ⟨a', kvs, s3, q3, r3'⟩ := own_dT S3 e5
            rw [s1] at s3
            cases s3
            obtain ⟨b, rfl, qb⟩ := (R3.hold.peek S3 pk).key ek
            refine ⟨a, _, rfl, .inr ⟨kvs, ks, b, q3, rfl, qb, by rw [r3'.length]; exact Nat.lt_of_lt_of_le hl (by decide), rfl⟩, ?_⟩
            obtain ⟨S4, v4⟩ := S3.pokeOwn (ownT_some e5) s1 (.inr (.inr (.inl ⟨putK kvs ks v, putT ps ks d, rfl, rfl, r3'.put ks (rd.mono e3)⟩)))
            exact k _ O3 _ S4 (by rw [v4]; exact (e1.trans k2).trans e3)
          · cases h4
        · cases h4
      · cases h4
    · cases h4
  · cases h3
theorem fe_dit0 : FE X (.Dict [] [] pos) (pureM (.fr (.dit []))) := fun F => PE.wk pe_dnewT fun σ H Q h => by
  obtain ⟨O, ρ, w, r, ρ', w', S, e, k⟩ := h
  cases e
  intro p np
  have x2 : Ex H (upd H p (.dT [])) := Ex.new np
  obtain ⟨S3, n3, k3⟩ := S.hide np x2 upd_same
  exact k _ O _ (S.grow x2) (vis_mono x2) ⟨p, _, rfl, n3, S3, upd_same, .inr (.inr (.inl ⟨[], [], rfl, rfl, .nil⟩)), k3⟩
end
end FD

end sec_FD19
section sec_FD20
set_option maxRecDepth 100000
set_option maxHeartbeats 5000000
/-! FD20: a dict that is given away is locked; its keys are walked. -/
namespace FD
open PySem L2
variable [Tabl]
section
variable {c : Ct} {F : Fm} {G : Hp} {O : List Addr} {ρ : Env} {w : W} {σ : L2.St} {H : Hp} {a : Addr} {i : Nat}
theorem SR.drop (S : SR c F O ρ w σ H) (i : Nat) : SR c F O (ρ.set i none) w σ H where
  len := by rw [List.length_set]; exact S.len
  base := S.base
  new := S.new
  sub := S.sub
  drs := S.drs
  trk := S.trk
  draw := S.draw
  val := fun j d h => by
    rcases getElem?_set_some h with ⟨_, z⟩ | ⟨_, h⟩
    · cases z
    · exact S.val j d h
  own := fun j d h => by
    rcases getElem?_set_some h with ⟨_, z⟩ | ⟨_, h⟩
    · cases z
    · exact S.own j d h
  uni := fun j j' d d' b h h' => by
    rcases getElem?_set_some h with ⟨_, z⟩ | ⟨_, h⟩
    · cases z
    · rcases getElem?_set_some h' with ⟨_, z⟩ | ⟨_, h'⟩
      · cases z
      · exact S.uni j j' d d' b h h'
/-- a hidden dict of no slot is locked and shown -/
theorem SR.lockFree {kvs : List (List Key × V)} {ps : List (D × D)} (S : SR c F O ρ w σ H) (hO : a ∈ O) (h0 : a ∉ F.O0) (nu : ∀ (j : Nat) e, ρ[j]? = some (some (Slot.own e)) → σ[j]? ≠ some (some (V.ref a))) (e : H a = some (.dT kvs)) (r : RepKT c F.dr.da (vis O H) kvs ps) (od : PySem.Obj) :
    ∃ O', SR c F O' ρ w σ (upd H a (.frz od (.dT kvs))) ∧ Ex (vis O H) (vis O' (upd H a (.frz od (.dT kvs)))) ∧ Rep c F.dr.da (vis O' (upd H a (.frz od (.dT kvs)))) (.ref a) (.fdit ps) ∧ ∀ b, b ∈ O' ↔ b ∈ O ∧ b ≠ a := by
  have S1 := S.poke e (fun _ z => nomatch z) hO h0 nu (.frz od (.dT kvs))
  obtain ⟨S2, x2⟩ := S1.show h0 nu
  have x1 : Ex (vis O H) (vis O (upd H a (.frz od (.dT kvs)))) := by rw [vis_upd hO]; exact Ex.refl _
  refine ⟨_, S2, x1.trans x2, .fdT (ob := od) (kvs := kvs) ?_ (r.mono (x1.trans x2)), fun b => by simp⟩
  rw [vis_out (by simp)]
  exact upd_same
end
def fzM (f : M RV) : M RV := bindM f fun r => match r with
  | .fr (.dit ps) => pureM (.sh (.fdit ps))
  | .ow i => fun ρ w => (match ρ[i]? with
    | some (some (.own (.dit ps))) => some (.sh (.fdit ps), ρ.set i (some (.val (.fdit ps))), w)
    | _ => some (.ow i, ρ, w))
  | r => pureM r
section
variable {X : Cx} {a b e e2 o : Expr} {es : List Expr} {pos p p2 pos' apos cpos : Pos} {x : Str} {i k : Nat} {fa fb fo fk fv fe : M RV} {tg : Expr}
theorem fe_fz (he : FE X e fe) : FE X e (fzM fe) := fun F => ⟨fun pins s σ H Q I h => by
  obtain ⟨O, ρ, w, r, ρ', w', S, e, k⟩ := h
  refine thn ((he F).run pins s σ H _ I (tE_then (Q := fun v H1 => ∃ O1 ρ1 w1 r1, SR (ct X) F O1 ρ1 w1 σ H1 ∧ Ex (vis O H) (vis O1 H1) ∧ RepR (ct X) F (vis O H) O1 ρ1 w1 σ H1 r1 v ∧ (match r1 with
    | .fr (.dit ps) => pureM (.sh (.fdit ps))
    | .ow i => fun ρ w => (match ρ[i]? with
      | some (some (.own (.dit ps))) => some (.sh (.fdit ps), ρ.set i (some (.val (.fdit ps))), w)
      | _ => some (.ow i, ρ, w))
    | r => pureM r : M RV) ρ1 w1 = some (r, ρ', w')) S e fun v O1 ρ1 w1 H1 r1 S1 e1 R1 h1 => ⟨O1, ρ1, w1, r1, S1, e1, R1, h1⟩)) fun u s1 ⟨x, H1, I1, rx, O1, ρ1, w1, r1, S1, e1, R1, h1⟩ => ?_
  split at h1
  · rename_i ps
    cases h1
    obtain ⟨a, o, rfl, n, S2, q, ob, x2⟩ := R1
    rcases ob with ⟨_, _, _, e2, _⟩ | ⟨_, _, _, e2, _⟩ | ⟨kvs, qs, rfl, e2, rk⟩ | ⟨_, _, _, _, _, _, e2, _⟩
    · cases e2
    · cases e2
    · cases e2
      obtain ⟨od, I2⟩ := I1.lock q (by trivial)
      have nF : a ∉ F.O0 := fun z => n (S1.sub a z)
      have nu : ∀ (j : Nat) e, ρ'[j]? = some (some (Slot.own e)) → σ[j]? ≠ some (some (V.ref a)) := fun j e h z => by
        obtain ⟨b, u, h1, h2, _⟩ := S1.own j e h
        rw [h1] at z
        cases z
        exact n h2
      obtain ⟨O3, S3, x3, rp, _⟩ := S2.lockFree List.mem_cons_self nF nu q rk od
      exact ⟨.ref a, _, I2, rx, k _ O3 _ S3 (x2.trans x3) rp⟩
    · cases e2
  · rename_i i
    split at h1
    · rename_i ps hi
      cases h1
      obtain ⟨a, o, h2, h3, h4, h5, ob⟩ := S1.own i _ hi
      have ex : x = .ref a := by
        have z := R1.1
        rw [h2] at z
        cases z
        rfl
      subst ex
      rcases ob with ⟨_, _, _, e2, _⟩ | ⟨_, _, _, e2, _⟩ | ⟨kvs, qs, rfl, e2, rk⟩ | ⟨_, _, _, _, _, _, e2, _⟩
      · cases e2
      · cases e2
      · cases e2
        obtain ⟨od, I2⟩ := I1.lock h5 (by trivial)
        have nu : ∀ (j : Nat) e, (ρ1.set i none)[j]? = some (some (Slot.own e)) → σ[j]? ≠ some (some (V.ref a)) := fun j e h z => by
          rcases getElem?_set_some h with ⟨_, y⟩ | ⟨n, h⟩
          · cases y
          · exact n (S1.uni i j _ _ a hi h h2 z)
        obtain ⟨O3, S3, x3, rp, _⟩ := (S1.drop i).lockFree h3 h4 nu h5 rk od
        have S4 := S3.setVal i rp
        have es : σ.set i (some (.ref a)) = σ := by
          apply List.ext_getElem?
          intro j
          by_cases z : i = j
          · subst z
            have hl := (List.getElem?_eq_some_iff.mp h2).1
            rw [List.getElem?_set_self hl, h2]
          · rw [List.getElem?_set_ne z]
        rw [es, List.set_set] at S4
        exact ⟨.ref a, _, I2, rx, k _ O3 _ S4 (e1.trans x3) rp⟩
      · cases e2
    · cases h1
      exact ⟨x, H1, I1, rx, k x O1 H1 S1 e1 R1⟩
  · cases h1
    exact ⟨x, H1, I1, rx, k x O1 H1 S1 e1 R1⟩⟩
/-! ### k in d, k not in d -/
theorem fc_din (hr : Room k X.A) (ha : FE X a fa) (hb : FE X b fb) (hm : behindInMarks .In b = false) : FC X .In a b pos (op2M (dinD false) fa fb) :=
  ⟨fun F => PE.wk (pe_cmp (pc_din (by have := hr.un; omega) (ha F) (hb F)) hm) fun σ H Q h => din_read (no := false) h,
   fun F => PT.wk (pt_cmp (pc_din (by have := hr.un; omega) (ha F) (hb F)) hm) fun σ H Q q => din_read (no := false) (bool_read q)⟩
theorem fc_dnin (hr : Room k X.A) (ha : FE X a fa) (hb : FE X b fb) (hm : behindInMarks .NotIn b = false) : FC X .NotIn a b pos (op2M (dinD true) fa fb) :=
  ⟨fun F => PE.wk (pe_cmp (pc_dnotin (by have := hr.un; omega) (ha F) (hb F)) hm) fun σ H Q h => din_read (no := true) h,
   fun F => PT.wk (pt_cmp (pc_dnotin (by have := hr.un; omega) (ha F) (hb F)) hm) fun σ H Q q => din_read (no := true) (bool_read q)⟩
/-! ### for k in d, d locked -/
theorem RepKT.keyAt {c : Ct} {da : Option Addr} {G : Hp} : ∀ {kvs : List (List Key × V)} {ps : List (D × D)}, RepKT c da G kvs ps → ∀ {i : Nat} {p : D × D}, ps[i]? = some p → ∃ k v, kvs[i]? = some (k, v) ∧ p.1 = .tup (k.map kD) ∧ Rep c da G v p.2
  | _, _, .nil, _, _, h => by simp at h
  | _, _, .cons h r, 0, _, e => by
    cases e
    exact ⟨_, _, rfl, rfl, h⟩
  | _, _, .cons h r, i + 1, _, e => by
    obtain ⟨k, v, h1, h2⟩ := RepKT.keyAt r (i := i) (by simpa using e)
    exact ⟨k, v, by simpa using h1, h2⟩
theorem RepAll.ofKeys {c : Ct} {da : Option Addr} {G : Hp} : ∀ (ks : List Key), RepAll c da G (ks.map kV) (ks.map kD)
  | [] => .nil
  | .inl i :: ks => .cons (.int i) (RepAll.ofKeys ks)
  | .inr x :: ks => .cons (.str x) (RepAll.ofKeys ks)
def keysM (f : M RV) : M (List D) := bindM f fun r => fun ρ w => match r with
  | .sh (.fdit ps) => some (ps.map (·.1), ρ, w)
  | _ => none
theorem fi_keys (he : FE X e fe) : FI X tg e (keysM fe) := fun F => ⟨fun pins s σ H R I q => by
  obtain ⟨O, ρ, w, ds, ρ', w', S, e, k⟩ := q
  refine (pi_keys (he F)).run pins s σ H R I ?_
  refine tE_then S e fun v O1 ρ1 w1 H1 r1 S1 e1 R1 h1 => ?_
  split at h1
  · rename_i ps
    cases h1
    cases R1 with
    | @fdT a ob kvs _ g r =>
      refine ⟨a, ob, rfl, .inr ⟨kvs, vis_ex _ _ g, k _ O1 H1 S1 e1 ?_⟩⟩
      intro i O2 H2 ex tr _
      have g2 := vis_ex _ _ (ex _ _ g)
      refine ⟨fun d hd => ?_, fun hl => ⟨g2, by rw [r.length]; simpa using Nat.le_of_eq hl⟩⟩
      rw [List.getElem?_map] at hd
      cases q : ps[i]? with
      | none => rw [q] at hd; cases hd
      | some p =>
        rw [q] at hd
        cases hd
        obtain ⟨ks, v, h2, h3, _⟩ := r.keyAt q
        refine ⟨⟨g2, (List.getElem?_eq_some_iff.mp h2).1⟩, fun y H3 yy => ?_⟩
        obtain ⟨rfl, ks', v', qa, h4, rfl, h5⟩ := yy
        rw [h2] at h4
        cases h4
        refine ⟨Ex.refl _, ?_⟩
        show Rep (ct X) F.dr.da _ (.ref qa) p.1
        rw [h3]
        refine .tup (xs := ks.map kV) ?_ (RepAll.ofKeys ks)
        rw [vis_out fun z => ?_]
        · exact h5
        · obtain ⟨o, y, nt⟩ := tr qa z
          rw [h5] at y
          cases y
          exact nt _ rfl
  · cases h1⟩
end
end FD

end sec_FD20
section sec_DC
set_option maxRecDepth 100000
set_option maxHeartbeats 5000000
/-! DC: {k: v for ..} whose keys are tuples of numbers and texts. -/
namespace DC
open PySem PySem.Spec PyProof.Rows L2
/-- a rule holds in the block of a comprehension, wherever it is made -/
abbrev InBlk (X : Cx) (scope : Scope) (J : Cx → Prop) : Prop := ∀ (s : Shared) (H : Hp) (C : Addr) (cl : List (Str × Addr)) (fp : List Addr), J (X.blk s H scope (compEnvC scope cl C X.env) fp)
section
variable {X : Cx}
/-- one more pair in the dict at D -/
theorem put {pins : List (Addr × Obj)} {σ : L2.St} {H : Hp} {s : Shared} {E : Value → Shared → Prop} {D q : Addr} {kvs : List (List Key × V)} {ks : List Key} {z : V} {r : Value} {Q : Unit → Shared → Prop} (I : Inv X pins σ H s) (room : X.A.units + 1 < cLine) (isD : H D = some (.dT kvs)) (few : kvs.length < sizeLine)
    (isK : H q = some (.tup (ks.map kV))) (rz : RelV z r) (go : ∀ s2, Inv X pins σ (upd H D (.dT (putK kvs ks z))) s2 → Q () s2) : wpAny (model X.prog X.w) X.A (dictSet D (.ref q) r) Q E s := by
  obtain ⟨_, nsys, xs, rel, dat⟩ := dt_of I.hok isD
  have n : kvs.length = xs.length := Paired.length rel
  have more := length_putK kvs ks z
  refine wpAny_dictSet_heap (hsz := by omega) (show X.A.units < cLine from Nat.lt_of_succ_lt room) (key_of I.hok isK) dat ?_
  intro h new same
  obtain ⟨o, es, ep, at_, p1, p2, p3, _, p4⟩ := new
  apply go
  refine d_write I (by rw [isD]; trivial) same ⟨o, at_⟩ ⟨by omega, nsys, _, (rel.put ks isK rz).keeps ?_, o, es, ep, at_, p1, p2, p3, p4⟩
  intro c ys e
  exact (upd_ne (ne_of e isD (by intro y; cases y))).trans e
/-- what a turn asks: the target, the tests, then key and value -/
def oneTurn (g : TG) (tt : TT) (tk tv : TE) (vs : List Nat) (σ : L2.St) (D : Addr) (Nx : Hp → Prop) (x : V) (H : Hp) : Prop := g x (wipe σ vs) H fun τ H2 => wipe τ vs = wipe σ vs ∧ tt τ H2 fun b H3 =>
  if b = true then tk τ H3 fun y H4 => tv τ H4 fun z H5 => ∃ kvs ks q, y = .ref q ∧ H5 q = some (.tup (ks.map kV)) ∧ H5 D = some (.dT kvs) ∧ kvs.length < sizeLine ∧ Nx (upd H5 D (.dT (putK kvs ks z))) else Nx H3
def tDcT (wi : TI) (g : TG) (tt : TT) (tk tv : TE) (vs : List Nat) : TE := fun σ H Q => wi σ H fun J H1 => ∀ D, H1 D = none → ∃ W : Nat → Nat → Hp → Prop, (∃ m, W 0 m (upd H1 D (.dT []))) ∧
  ∀ i m H2, W i m H2 → (J.stop i H2 ∧ Q (.ref D) H2) ∨ (J.go i H2 ∧ ∀ x H3, J.yld i H2 x H3 → oneTurn g tt tk tv vs σ D (fun H4 => ∃ m2, m2 < m ∧ W (i + 1) m2 H4) x H3)
section
variable {kx vx tg iter : Expr} {ifs : List Expr} {scope : Scope} {own : List (Str × Nat)} {pos : Pos} {wi : TI} {g : TG} {tt : TT} {tk tv : TE}
theorem frees (ok : BlkOk X.N X.env.scope scope own) {pins : List (Addr × Obj)} {σ : L2.St} {H : Hp} {s : Shared} (I : Inv X pins σ H s) : ∀ y ∈ scope.names, y.2 = .free → ∃ c, X.env.cells.lookup y.1 = some c := by
  intro y hy e
  exact I.ok.has _ (ok.free y hy e)
/-- the loop, in the block's context Y -/
theorem loop {Y : Cx} {fp : List Addr} {it D : Addr} {J : It} {tn : Nat → Heap → Prop} {W : Nat → Nat → Hp → Prop} {σ : L2.St} {R : Result → Shared → Prop} {Qd : Hp → Prop} (no : Y.xe = fun _ _ => False) (calm : Y.calm = true) (room : Y.A.units + 1 < cLine)
    (ours : ∀ {τ : L2.St} {H : Hp} {s : Shared}, Inv Y [] τ H s → (∀ b ∈ fp, H b = none) → ∀ b ∈ fp, FpOk Y [] H b) (T : Turn Y.prog Y.w Y.K tg J fp it tn) (hg : PG Y tg g) (ht : PTs Y ifs tt) (hk : PE Y kx tk) (hv : PE Y vx tv)
    (turn : ∀ i m H, W i m H → (J.stop i H ∧ Qd H) ∨ (J.go i H ∧ ∀ x H2, J.yld i H x H2 → oneTurn g tt tk tv (own.map (·.2)) σ D (fun H3 => ∃ m2, m2 < m ∧ W (i + 1) m2 H3) x H2))
    (fin : ∀ {s : Shared} {H : Hp}, Inv Y [] (wipe σ (own.map (·.2))) H s → Qd H → R (.ok .next) s)
    {m : Nat} {H : Hp} {s : Shared} (I : Inv Y [] (wipe σ (own.map (·.2))) H s) (st : tn 0 s.heap) (nf : ∀ b ∈ fp, H b = none) (w0 : W 0 m H) :
    codeAny (model Y.prog Y.w) Y.A (.compLoop (.DictComp kx vx [⟨tg, iter, ifs, 0⟩] scope pos) 0 (.ref it) (.ref D) Y.env) R s := by
  let At : Nat → Shared → Prop := fun n s => ∃ i H, Inv Y [] (wipe σ (own.map (·.2))) H s ∧ tn i s.heap ∧ (∀ b ∈ fp, H b = none) ∧ W i n H
  apply compLoop_anyD At ?step m ⟨0, H, I, st, nf, w0⟩
  rintro n s1 ⟨i, H1, I1, st1, nf1, w1⟩
  cases turn i n H1 w1 with
  | inl z =>
    apply thnF (T.done Y rfl rfl rfl calm i [] s1 _ H1 _ I1 (ours I1 nf1) st1 z.1)
    rintro _ s2 ⟨rfl, I2⟩
    exact fin I2 z.2
  | inr z =>
    apply thnF (T.item Y rfl rfl rfl calm i [] s1 _ H1 _ I1 (ours I1 nf1) st1 z.1)
    rintro _ s2 ⟨u, rfl, more⟩
    apply thnF more
    rintro _ s3 ⟨x, H3, I3, rx, yld, st3, nf3⟩
    -- the iterator's objects are pinned while the turn runs
    have I4 := I3.pinned (ours I3 nf3) (T.obj _ _ st3)
    have back : ∀ {τ : L2.St} {s' : Shared} {H' : Hp}, Inv Y ([] ++ pinsAt fp s3.heap) τ H' s' → wipe τ (own.map (·.2)) = wipe σ (own.map (·.2)) → (∃ m2, m2 < n ∧ W (i + 1) m2 H') → ∃ m2, m2 < n ∧ At m2 s' := by
      rintro τ s' H' I' same ⟨m2, less, w2⟩
      have still : ∀ b ∈ fp, ∀ o, s3.heap.get? b = some o → s'.heap.get? b = some o ∧ H' b = none := fun b hb o e => by
        have p := I'.pin (b, o) (List.mem_append_right _ (List.mem_append_right _ (mem_pinsAt hb e)))
        exact ⟨p.1, p.2.1⟩
      refine ⟨m2, less, i + 1, H', (I'.unpinned (pins := [])).weak (by rw [← same, wipe_length]) ?_, T.keep _ _ _ st3 fun b hb o e => (still b hb o e).1, ?_, w2⟩
      · intro j v e
        rw [← same] at e
        exact (wipe_some e).1
      · intro b hb
        obtain ⟨o, e, _⟩ := T.obj _ _ st3 b hb
        exact (still b hb o e).2
    have run := hg.run _ s3 _ H3 x u _ I4 rx (z.2 x H3 yld)
    rw [no] at run
    apply thnF run
    rintro _ s4 ⟨τ, H4, I5, same, q4⟩
    have run := ht.run _ s4 τ H4 _ I5 q4
    rw [no] at run
    apply thnF run
    rintro b s5 ⟨H5, I6, q5⟩
    cases b with
    | false => exact back I6 same q5
    | true =>
      have run := hk.run _ s5 τ H5 _ I6 q5
      rw [no] at run
      apply thnF run
      rintro key s6 ⟨y, H6, I7, ry, q6⟩
      have run := hv.run _ s6 τ H6 _ I7 q6
      rw [no] at run
      apply thnF run
      rintro r s7 ⟨v, H7, I8, rv, kvs, ks, q, rfl, isK, isD, few, nx⟩
      obtain rfl : key = .ref q := ry
      exact put I8 room isD few isK rv fun s8 I9 => back I9 same nx
theorem pe_dcT (calm : X.calm = true) (nd : X.N.Nodup) (room : X.A.units + 1 < cLine) (hi : PI X tg iter wi) (ok : BlkOk X.N X.env.scope scope own) (hg : InBlk X scope fun Y => PG Y tg g) (ht : InBlk X scope fun Y => PTs Y ifs tt) (hk : InBlk X scope fun Y => PE Y kx tk) (hv : InBlk X scope fun Y => PE Y vx tv)
    (plain : ∀ x, foldedSetIterable iter X.env x = pure x := by intro _; rfl) : PE X (.DictComp kx vx [⟨tg, iter, ifs, 0⟩] scope pos) (tDcT wi g tt tk tv (own.map (·.2))) where
  run := by
    intro pins s σ H Q I pre
    rw [arm_eval_DictComp]
    refine wpAny_comprehension_free (use := none) rfl plain (closure_ok (frees ok I)) ok.kind (fun y hy e => by rw [ok.uniq y hy, e]) ?_
    apply thn (hi.run pins s σ H _ I pre)
    intro v s1 more
    apply thn more
    rintro _ s2 ⟨it, fp, tn, J, H2, rfl, I2, T, st, fps, post⟩
    obtain ⟨W, ⟨m, w0⟩, turn⟩ := post s2.heap.objs.size (I2.hok.fresh (Nat.le_refl _))
    refine wpAny_newObj_type (newEnv_comp ?_)
    -- the new dict
    have kept : ∀ b o, s2.heap.get? b = some o → (s2.heap.push { cls := .type "dict", data := .dict #[] }).get? b = some o := fun b o e => Heap.get?_push_of_some _ e
    have I3 := I2.laid (t' := s2.toks) (o := .dT []) kept (Nat.le_refl _) (dt_empty s2.heap I2.big)
    generalize hs3 : ({ s2 with heap := s2.heap.push { cls := .type "dict", data := .dict #[] } } : Shared) = s3 at I3
    have h3 : s3.heap = s2.heap.push { cls := .type "dict", data := .dict #[] } := by rw [← hs3]
    have old : ∀ b ∈ fp, b < s2.heap.objs.size := fun b hb => by
      obtain ⟨o, e, _⟩ := T.obj _ _ st b hb
      exact Heap.lt_size e
    have fp3 : ∀ b ∈ fp, FpOk X pins (upd H2 s2.heap.objs.size (.dT [])) b ∧ b < s3.heap.objs.size := fun b hb => by
      refine ⟨⟨(upd_ne (Nat.ne_of_lt (old b hb))).trans (fps b hb).1, (fps b hb).2⟩, ?_⟩
      rw [h3, Heap.size_push]
      exact Nat.lt_succ_of_lt (old b hb)
    have st3 : tn 0 s3.heap := T.keep _ _ _ st fun b _ o e => by
      rw [h3]
      exact kept b o e
    have I4 := block_start I3 ok nd fp3
    have st4 : tn 0 (pushCells (s3.heap.push { cls := .type "dict", data := .dict #[] }) scope.names) := T.keep _ _ _ st3 fun b _ o e => pushCells_keeps _ _ _ _ (Heap.get?_push_of_some _ e)
    generalize hH3 : upd H2 s2.heap.objs.size (.dT []) = H3 at I3 I4 fp3 w0
    have run : codeAny (model X.prog X.w) X.A (.compLoop (.DictComp kx vx [⟨tg, iter, ifs, 0⟩] scope pos) 0 (.ref it) (.ref s2.heap.objs.size) (compEnvC scope (cellsFrom (s3.heap.objs.size + 1) scope.names (cloFrom X.env.cells scope.names [])) s3.heap.objs.size X.env))
        (compPost (model X.prog X.w) X.A X.xe none (EP X pins σ Q) (.ref s2.heap.objs.size) s3.heap.objs.size) { s3 with heap := pushCells (s3.heap.push { cls := .type "dict", data := .dict #[] }) scope.names } := by
      refine loop (Y := X.blk s3 H3 scope (compEnvC scope (cellsFrom (s3.heap.objs.size + 1) scope.names (cloFrom X.env.cells scope.names [])) s3.heap.objs.size X.env) fp) (own := own) (J := J) (W := W) (σ := σ) (Qd := Q (.ref s2.heap.objs.size)) rfl calm room ?ours T (hg _ _ _ _ _) (ht _ _ _ _ _) (hk _ _ _ _ _) (hv _ _ _ _ _) turn ?fin I4 st4 (fun b hb => (fp3 b hb).1.1) w0
      case ours =>
        intro τ H' s' I' none' b hb
        exact ⟨none' b hb, (I'.ok.exf b hb).1, I'.ok.exfs b hb, Or.inl hb, (I'.ok.exf b hb).2, fun p hp => by cases hp⟩
      case fin =>
        intro s' H' I' q
        have J' : Inv X pins σ H' s' := I3.call' (ch := fp) I'.os I'.base I'.hok I'.bare fun b hb => by
          obtain ⟨_, f1, _, f3, f4, f5⟩ := (fp3 b hb).1
          exact ⟨f3, f1, f4, f5⟩
        obtain ⟨mp, ns, _⟩ := I'.loc
        obtain ⟨f0, f1, _, f3, f4, f5⟩ := I3.fpOk (b := s3.heap.objs.size) (H' := H') (Nat.le_refl _) I'.free
        exact ⟨mp, ns, fun h' sb => ⟨.ref s2.heap.objs.size, H', J'.turned (t' := s'.toks) (fun b o hb e => (sb.2 b hb).trans e) f0 f1 f3 f4 f5, rfl, q⟩⟩
    exact codeAny_compStart_dict run (T.self X.A 0 _ _ _ st4 run)
end
end
end DC

end sec_DC
section sec_DV
set_option maxRecDepth 100000
set_option maxHeartbeats 5000000
/-! DV: list(d.values()) of a dict with tuple keys. -/
namespace DV
open PySem PySem.Spec PyProof.Rows L2
open PySem.W (KdlSrc)
theorem vals_pick : ∀ {kvs : List (List Key × V)} {xs : List (List Key × Addr × Value)} {H : Hp}, KT H kvs xs → Vals (kvs.map (·.2)) (xs.map fun x => x.2.2)
  | _, _, _, .nil => .nil
  | _, _, _, .cons h t => .cons h.2.2 (vals_pick t)
/-- what is drawn from the entries, one by one, are the values -/
theorem told {P : Program} {w : World} {es : Array DictEntry} {xs : List (List Key × Addr × Value)} {out : List Value} (hent : es.toList = xs.map (entryOfKey (tupleKind (mixKind P w)))) (n : out.length = xs.length) (each : ∀ j v, out[j]? = some v → ∃ h : j < es.size, v = es[j].val) : out = xs.map fun x => x.2.2 := by
  apply List.ext_getElem (by simpa using n)
  intro j h1 h2
  obtain ⟨lt, e⟩ := each j _ (List.getElem?_eq_getElem h1)
  have at_ := entry_at hent j
  have lx : j < xs.length := by simpa using h2
  rw [Array.getElem?_eq_getElem lt, List.getElem?_eq_getElem lx] at at_
  rw [e, Option.some.inj at_, List.getElem_map]
  rfl
def tListVals (te : TE) : TE := fun σ H Q => te σ H fun x H1 => ∃ d kvs, x = .ref d ∧ Rd H1 d (.dT kvs) ∧ ∀ q, H1 q = none → Q (.ref q) (upd H1 q (.lst (kvs.map (·.2))))
section
variable {X : Cx} {e : Expr} {te : TE} {p pos apos cpos : Pos}
theorem pe_listVals (hc : X.calm = true) (he : PE X e te) (hg : Gl X "list") (hm : X.mg "list" = none) (hv : bootBuiltins "list" = some (.type "list")) (hbase : attributeBase e "values" X.env (eval e X.env) = eval e X.env := by rfl) (hline : (apos.endLine == cpos.line) = true := by rfl)
    (hs : starEach [.Call (.Attribute e "values" apos) [] [] cpos] X.env = (false, eval (.Call (.Attribute e "values" apos) [] [] cpos) X.env) :: starEach [] X.env := by rfl) :
    PE X (.Call (.Name "list" p) [.Call (.Attribute e "values" apos) [] [] cpos] [] pos) (tListVals te) := ⟨fun pins s σ H Q I hq => by
  refine wpAny_Call_Name_kw (ld_blt I hg hm hv (PyProof.Rows.callWith_type1 ?_ hs rfl))
  rw [hs]
  show wpAny _ _ (spliced ((false, eval (.Call (.Attribute e "values" apos) [] [] cpos) X.env) :: backTo pos (starEach [] X.env))) _ _ s
  refine Calls.spliced_cons (wpAny_Call_method (T := "dict") (id := "dict.values") hbase rfl hline F.plainAttrs_dict F.slot_dict_values F.type_dict_values (thn (he.run pins s σ H _ I hq) fun u s1 ⟨x, H1, I1, rx, d, kvs, ex, hd, q⟩ => ?_))
  subst ex
  have ev : u = .ref d := rx
  subst ev
  obtain ⟨hz, hs0, xs, kt, o, es, ep, ho, hx, hdt, hent, _⟩ := (show ObjOk X.prog X.w H1 s1.heap d (.dT kvs) from hd.ok I1.hok)
  have raw : s1.heap.DictRaw d es ep := ⟨o, ho, hx, hdt⟩
  have l1 : es.size = xs.length := size_of_entries hent
  have l2 : kvs.length = xs.length := Paired.length kt
  refine ⟨⟨o, ho, hx.1⟩, fun b z => by cases z; exact ⟨o, ho, hx.2.1⟩, ?_⟩
  show wpAny _ _ (callWith _ (.builtin "dict.values") _ [] []) _ _ _
  refine method_meetsIn F.slot_dict_values F.entry_dict_values rfl (PySem.evalArgs_none ⟨rfl, ⟨o, ho, hx.1⟩, F.args_dict_values_1 _, _, meets_dict_values_raw d hs0, ⟨⟨es, ep, raw⟩, ?_⟩⟩)
  refine Calls.spliced_nil ?_
  have I2 := I1.kept (t' := s1.toks) (h' := s1.heap.push { cls := .type "dict_values", data := .fields #[.ref d] }) fun _ _ => Heap.get?_push_of_some _
  have vw : (s1.heap.push { cls := .type "dict_values", data := .fields #[.ref d] }).IsValuesView s1.heap.objs.size d := ⟨_, Heap.get?_push_size _ rfl, rfl, rfl⟩
  refine PySem.W.kdl_call (s := { s1 with heap := s1.heap.push { cls := .type "dict_values", data := .fields #[.ref d] } }) KdlSrc.rawValues (I1.ok.hd hc) ⟨vw, raw.push _⟩ (by omega) fun h' tk acc' c' kp e' it => ?_
  have ea := told hent (by rw [Array.length_toList, it.1]; exact l1) fun j v hj => it.2 j v (by rw [← Array.getElem?_toList]; exact hj)
  have rv : Vals (kvs.map (·.2)) acc'.toList := by rw [ea]; exact vals_pick kt
  refine ⟨.ref _, _, I2.laid (t' := tk) (o := .lst (kvs.map (·.2))) kp (Nat.le_refl _) ?_, rfl, q _ (I2.hok.fresh (Nat.le_refl _))⟩
  exact ⟨by rw [List.length_map]; exact hz, acc'.toList, c', rv, by rw [Array.toArray_toList]; exact e'⟩⟩
end
end DV

end sec_DV
section sec_FD21
set_option maxRecDepth 100000
set_option maxHeartbeats 5000000
/-! FD21: dict comprehensions with tuple keys, list(d.values()), len(d). -/
namespace FD
open PySem L2
variable [Tabl]
def dcTurn (asg : D → M Unit) (test : M Bool) (fk fv : M RV) (d : D) (acc : List (D × D)) : M (List (D × D)) := bindM (asg d) fun _ => bindM test fun b => if b then bindM fk fun r1 => bindM fv fun r2 => bindM (escR r2) fun z => fun ρ w => (match peek ρ r1 with
  | some kd => (match keyT kd with
    | some ks => some (putT acc ks z, ρ, w)
    | none => none)
  | none => none) else pureM acc
def dcL (vs : List Nat) (asg : D → M Unit) (test : M Bool) (fk fv : M RV) : List D → List (D × D) → M (List (D × D))
  | [], acc => pureM acc
  | d :: ds, acc => bindM (dcTurn asg test fk fv d acc) fun acc2 => bindM (wipeM vs) fun _ => dcL vs asg test fk fv ds acc2
def dcM (fi : M (List D)) (vs : List Nat) (asg : D → M Unit) (test : M Bool) (fk fv : M RV) : M RV := bindM fi fun ds => fun ρ w =>
  if noOwn ρ vs = true ∧ ds.length ≤ 1000000 then match dcL vs asg test fk fv ds [] (wipeE ρ vs) w with
    | some (ps, ρ2, w2) => some (.fr (.dit ps), restE ρ ρ2 vs, w2)
    | none => none
  else none
theorem putT_length (ps : List (D × D)) (k : List Key) (d : D) : (putT ps k d).length ≤ ps.length + 1 := by
  unfold putT
  split <;> simp
section
variable {c : Ct} {F : Fm} {σ : L2.St} {H : Hp} {Q : VK}
theorem dc_read {fi : M (List D)} {vs js : List Nat} {g : D → M Unit} {tt : M Bool} {fk fv : M RV} (hj : ∀ j ∈ js, j ∈ vs) (h : tE c F (dcM fi vs g tt fk fv) σ H Q) : DC.tDcT (eI c fi) (eG c js g) (eT c tt) (eE c fk) (eE c fv) vs σ H Q := by
  obtain ⟨O, ρ, w, r, ρ', w', S, e, k⟩ := h
  obtain ⟨ds, ρ1, w1, e1, e2⟩ := bindM_some e
  by_cases hc : noOwn ρ1 vs = true ∧ ds.length ≤ 1000000
  · rw [if_pos hc] at e2
    obtain ⟨no, hl⟩ := hc
    split at e2
    · rename_i ys ρ2 w2 e3
      cases e2
      refine ⟨F, O, ρ, w, ds, ρ1, w1, S, e1, fun J O1 H1 S1 x1 W => ?_⟩
      intro Dl hD
      obtain ⟨S2, n2, k2⟩ := S1.hide hD (Ex.new (o := .dT []) hD) upd_same
      have nF : Dl ∉ F.O0 := fun z => n2 (S1.sub Dl z)
      refine ⟨fun i m H' => m = ds.length - i ∧ i ≤ ds.length ∧ ∃ O' ρ' wv acc dacc, SR c F O' ρ' wv (L2.wipe σ vs) H' ∧ Dl ∈ O' ∧ (∀ (j : Nat) e, ρ'[j]? = some (some (Slot.own e)) → (L2.wipe σ vs)[j]? ≠ some (some (V.ref Dl))) ∧ H' Dl = some (.dT acc) ∧ acc.length ≤ i ∧ RepKT c F.dr.da (vis O' H') acc dacc ∧
        Ex (vis O1 H1) (vis O' H') ∧ dcL vs g tt fk fv (ds.drop i) dacc ρ' wv = some (ys, ρ2, w'), ⟨ds.length, by simp, Nat.zero_le _, Dl :: O1, _, _, [], [], S2.wipe vs, List.mem_cons_self, fun j e q z => ?_, upd_same, Nat.le_refl _, .nil, k2, by simpa using e3⟩, ?_⟩
      · obtain ⟨a, o, h1, h2, _⟩ := (S1.wipe vs).own j e q
        rw [h1] at z
        cases z
        exact n2 h2
      rintro i m H' ⟨rfl, hi, O3, ρ3, w3, acc, dacc, S3, m3, u3, q3, l3, r3, x3, e4⟩
      obtain ⟨hgo, hstop⟩ := W i O3 H' x3 S3.trk S3.cel
      by_cases hlt : i < ds.length
      · obtain ⟨go, yld⟩ := hgo ds[i] (by simp [hlt])
        rw [List.drop_eq_getElem_cons hlt] at e4
        obtain ⟨acc2, ρ4, w4, e5, e6⟩ := bindM_some e4
        obtain ⟨_, ρ5, w5, e7, e9⟩ := bindM_some e6
        cases e7
        obtain ⟨_, ρ7, w7, e11, e12⟩ := bindM_some e5
        obtain ⟨b, ρ8, w8, e13, e14⟩ := bindM_some e12
        refine .inr ⟨go, fun x H4 yy => ?_⟩
        obtain ⟨x4, r4⟩ := yld x H4 yy
        have S4 := S3.grow x4
        have q4 := x4 _ _ q3
        have S5 : SR c (F.and Dl (.dT acc)) O3 ρ3 w3 (L2.wipe σ vs) H4 := ((S4.congr (O' := Dl :: O3) fun b => ⟨fun z => List.mem_cons_of_mem _ z, fun z => (List.mem_cons.mp z).elim (fun y => y ▸ m3) id⟩).in nF u3 q4).congr fun b => ⟨fun z => (List.mem_cons.mp z).elim (fun y => y ▸ m3) id, fun z => List.mem_cons_of_mem _ z⟩
        refine ⟨F.and Dl (.dT acc), O3, ρ3, w3, ds[i], ρ7, w7, S5, r4, e11, fun σ2 O5 S6 x6 hl6 hk6 => ?_⟩
        have ws : L2.wipe σ2 vs = L2.wipe σ vs := (wipe_same hl6 hk6 hj).trans (wipe_wipe vs)
        refine ⟨ws, F.and Dl (.dT acc), O5, ρ7, w7, b, ρ8, w8, S6, e13, fun O7 H7 S7 x7 => ?_⟩
        have x8 : Ex (vis O3 H') (vis O7 H7) := ((vis_mono x4).trans x6).trans x7
        have newD : H1 Dl = none := hD
        have frF := (S1.hide hD (Ex.new (o := .dT []) hD) upd_same).1.new Dl List.mem_cons_self nF
        cases b with
        | false =>
          cases e14
          obtain ⟨S8, q8, m8, u8⟩ := S7.out nF frF S1.drs
          have S9 := S8.wipe vs
          rw [ws] at S9
          exact ⟨ds.length - (i + 1), by omega, rfl, hlt, O7, _, _, acc, dacc, S9, m8, fun j e q z => by
            obtain ⟨a, o, h1, h2, h3, _⟩ := (S7.wipe vs).own j e q
            rw [ws] at h1
            rw [h1] at z
            cases z
            exact h3 List.mem_cons_self, q8, Nat.le_succ_of_le l3, r3.mono x8, x3.trans x8, e9⟩
        | true =>
          obtain ⟨r, ρ9, w9, e15, e16⟩ := bindM_some e14
          obtain ⟨r2, ρa, wa, e17, e18⟩ := bindM_some e16
          obtain ⟨zd, ρb, wb, e19, e20⟩ := bindM_some e18
          refine ⟨F.and Dl (.dT acc), O7, ρ8, w8, r, ρ9, w9, S7, e15, fun y O9 H9 S9 x9 R9 => ?_⟩
          refine ⟨F.and Dl (.dT acc), O9, ρ9, w9, r2, ρa, wa, S9, e17, fun v Oa Ha Sa xa Ra => ?_⟩
          obtain ⟨rfl, Ob, Sb, xb, rb⟩ := escR_ok Sa Ra.hold e19
          split at e20
          · rename_i kd pk
            split at e20
            · rename_i ks ek
              cases e20
              obtain ⟨Sc, qc, mc, uc⟩ := Sb.out nF frF S1.drs
              obtain ⟨q, rfl, isK⟩ := ((R9.hold.mono (xa.trans xb)).peek Sb pk).key ek
              have xt : Ex (vis O3 H') (vis Ob Ha) := ((x8.trans x9).trans xa).trans xb
              have few : acc.length < 1000001 := Nat.lt_succ_of_le (Nat.le_trans l3 (Nat.le_trans hi hl))
              refine ⟨acc, ks, q, rfl, isK, qc, Nat.lt_of_lt_of_le few (by decide), ds.length - (i + 1), by omega, rfl, hlt, ?_⟩
              have Sd := (Sc.poke qc (fun _ z => nomatch z) mc nF uc (.dT (putK acc ks v))).wipe vs
              rw [ws] at Sd
              refine ⟨Ob, _, _, putK acc ks v, putT dacc ks zd, Sd, mc, fun j e q z => ?_, upd_same, ?_, ?_, ?_, e9⟩
              · obtain ⟨a, o, h1, h2, h3, _⟩ := (Sb.wipe vs).own j e q
                rw [ws] at h1
                rw [h1] at z
                cases z
                exact h3 List.mem_cons_self
              · have := length_putK acc ks v
                omega
              · rw [vis_upd mc]
                exact (r3.mono xt).put ks rb
              · rw [vis_upd mc]
                exact x3.trans xt
            · cases e20
          · cases e20
      · have ei : i = ds.length := by omega
        subst ei
        rw [List.drop_length] at e4
        cases e4
        refine .inl ⟨hstop rfl, ?_⟩
        have Sr := S1.rest no S3 x3
        have ur : ∀ (j : Nat) e, (restE ρ1 ρ2 vs)[j]? = some (some (Slot.own e)) → σ[j]? ≠ some (some (V.ref Dl)) := fun j e q z => by
          rcases restE_get q with ⟨m, y⟩ | ⟨m, y⟩
          · cases hq : ρ1[j]? with
            | none =>
              rw [hq] at y
              cases y
            | some t =>
              rw [hq] at y
              have y' : some (Slot.own e) = t := y
              subst y'
              have z := List.all_eq_true.mp no j m
              rw [hq] at z
              cases z
          · have z' := u3 j e y
            rw [wipe_out m] at z'
            exact z' z
        obtain ⟨Ss, xs⟩ := Sr.show nF ur
        have eqO : ∀ b, b ∈ O3 ↔ b ∈ Dl :: (O3.filter fun b => decide (b ≠ Dl)) := fun b => by
          simp only [List.mem_cons, List.mem_filter, decide_eq_true_eq]
          constructor
          · intro z
            by_cases y : b = Dl
            · exact .inl y
            · exact .inr ⟨z, y⟩
          · rintro (z | z)
            · rw [z]; exact m3
            · exact z.1
        refine k (.ref Dl) (O3.filter fun b => decide (b ≠ Dl)) H' Ss (x1.trans (x3.trans xs)) ⟨Dl, .dT acc, rfl, by simp, Sr.congr eqO, q3, .inr (.inr (.inl ⟨acc, _, rfl, rfl, ?_⟩)), ?_⟩
        · rw [← vis_congr eqO]
          exact r3
        · rw [← vis_congr eqO]
          exact x1.trans x3
    · cases e2
  · rw [if_neg hc] at e2
    cases e2
end
section
variable {X : Cx} {kx vx tg iter o : Expr} {ifs : List Expr} {scope : Scope} {own : List (Str × Nat)} {pos p apos cpos : Pos} {fi : M (List D)} {js : List Nat} {g : D → M Unit} {tt : M Bool} {fk fv fo : M RV} {k : Nat}
theorem fe_dc (hc : X.calm = true) (hN : X.N.Nodup) (hr : Room k X.A) (hi : FI X tg iter fi) (ok : BlkOk X.N X.env.scope scope own) (hg : DC.InBlk X scope fun Y => FG Y tg js g) (ht : DC.InBlk X scope fun Y => FTs Y ifs tt) (hk : DC.InBlk X scope fun Y => FE Y kx fk) (hv : DC.InBlk X scope fun Y => FE Y vx fv)
    (hj : ∀ j ∈ js, j ∈ own.map (·.2) := by decide) (hs : ∀ x, foldedSetIterable iter X.env x = pure x := by intro _; rfl) :
    FE X (.DictComp kx vx [⟨tg, iter, ifs, 0⟩] scope pos) (dcM fi (own.map (·.2)) g tt fk fv) := fun F =>
  PE.wk (DC.pe_dcT hc hN (by have := hr.un; omega) hi.any ok (fun s H C cl fp => (hg s H C cl fp).any) (fun s H C cl fp => (ht s H C cl fp).any) (fun s H C cl fp => (hk s H C cl fp).any) (fun s H C cl fp => (hv s H C cl fp).any) hs) fun σ H Q q => dc_read hj q
/-! ### list(d.values()) -/
theorem RepKT.vals {c : Ct} {da : Option Addr} {G : Hp} : ∀ {kvs : List (List Key × V)} {ps : List (D × D)}, RepKT c da G kvs ps → RepAll c da G (kvs.map (·.2)) (ps.map (·.2))
  | _, _, .nil => .nil
  | _, _, .cons h r => .cons h (RepKT.vals r)
def valsM (fo : M RV) : M RV := bindM fo fun r => fun ρ w => match peek ρ r with
  | some d => (match pairsD d with
    | some ps => some (.fr (.lst (ps.map (·.2))), ρ, w)
    | none => none)
  | none => none
theorem fe_vals (hc : X.calm = true) (ho : FE X o fo) (hg : Gl X "list") (hm : X.mg "list" = none) (hb : BaseOk X o "values" := by rfl) (hline : (apos.endLine == cpos.line) = true := by rfl) (hs : Plain1 X (.Call (.Attribute o "values" apos) [] [] cpos) [] := by rfl) :
    FE X (.Call (.Name "list" p) [.Call (.Attribute o "values" apos) [] [] cpos] [] pos) (valsM fo) := fun F => PE.wk (DV.pe_listVals hc (ho F) hg hm (by decide +kernel) hb hline hs) fun σ H Q h => by
  obtain ⟨O, ρ, w, r, ρ', w', S, e, k⟩ := h
  refine tE_then S e fun v O1 ρ1 w1 H1 r1 S1 e1 R1 h1 => ?_
  split at h1
  · rename_i d pd
    split at h1
    · rename_i ps pp
      cases h1
      obtain ⟨a, kvs, rfl, q, rk⟩ := (R1.hold.peek S1 pd).pairs pp
      refine ⟨a, kvs, rfl, q, fun n nn => ?_⟩
      obtain ⟨S2, k2, R2⟩ := new_lst S1 nn (RepKT.vals rk)
      exact k _ O1 _ S2 (e1.trans k2) (R2.less e1)
    · cases h1
  · cases h1
end
end FD

end sec_FD21
section sec_FD22
set_option maxRecDepth 100000
set_option maxHeartbeats 5000000
/-! FD22: len of a dict, sum and max of a list, list * int, x.index(y) of texts. -/
namespace FD
open PySem L2
variable [Tabl]
section
variable {X : Cx}
def lenTD : List D → Option RV
  | [.dit ps] => some (.sh (.int ps.length))
  | _ => none
theorem bD_lenT : CallR X (.builtin "len") (rPure (ct X) lenTD) := by
  rintro pins s σ H xs us Q I r ⟨da, O, ds, rv, hO, p, eg, q⟩
  unfold lenTD at eg
  split at eg
  · cases eg
    obtain ⟨v, rfl, P⟩ := p.one
    obtain ⟨a, kvs, rfl, at_, rk⟩ := P.dit
    refine call_len_dT pins s σ H _ us Q I r ⟨a, kvs, rfl, at_, q _ _ (Ex.refl _) ?_⟩
    rw [rk.length]
    exact .int _
  · cases eg
def sumD : List D → Option RV
  | [.lst ds] => (asInts ds).map fun ns => .sh (.int ns.sum)
  | _ => none
theorem bD_sum (hc : X.calm = true) : CallR X (.builtin "sum") (rPure (ct X) sumD) := by
  rintro pins s σ H xs us Q I r ⟨da, O, ds, rv, hO, p, eg, q⟩
  unfold sumD at eg
  split at eg
  · rename_i es
    cases e : asInts es with
    | none => rw [e] at eg; cases eg
    | some ns =>
      rw [e] at eg
      cases eg
      obtain rfl := asInts_some e
      obtain ⟨v, rfl, P⟩ := p.one
      obtain ⟨a, vs, rfl, at_, ra⟩ := P.lst
      obtain rfl := ra.ints_inv
      exact cr_sum hc pins s σ H _ us Q I r ⟨a, ns, rfl, .inl (.inl at_), q _ _ (Ex.refl _) (.int _)⟩
  · cases eg
def top : List Int → Int
  | [] => 0
  | [a] => a
  | a :: b :: r => if a < top (b :: r) then top (b :: r) else a
theorem top_of : ∀ {ns : List Int} {m : Int}, m ∈ ns → (∀ y, y ∈ ns → y ≤ m) → m = top ns
  | [], _, h, _ => by cases h
  | [a], m, h, _ => by simpa [top] using h
  | a :: b :: r, m, h, le => by
    have big : ∀ {l : List Int}, l ≠ [] → top l ∈ l ∧ ∀ y ∈ l, y ≤ top l := by
      intro l
      induction l with
      | nil => exact fun z => absurd rfl z
      | cons x l ih =>
        intro _
        cases l with
        | nil => simp [top]
        | cons y l =>
          obtain ⟨i1, i2⟩ := ih (by simp)
          by_cases z : x < top (y :: l)
          · rw [show top (x :: y :: l) = top (y :: l) from if_pos z]
            refine ⟨List.mem_cons_of_mem _ i1, ?_⟩
            intro u hu
            rcases List.mem_cons.mp hu with rfl | hu
            · omega
            · exact i2 u hu
          · rw [show top (x :: y :: l) = x from if_neg z]
            refine ⟨List.mem_cons_self, ?_⟩
            intro u hu
            rcases List.mem_cons.mp hu with rfl | hu
            · omega
            · have := i2 u hu
              omega
    obtain ⟨b1, b2⟩ := big (l := a :: b :: r) (by simp)
    have := le _ b1
    have := b2 m h
    omega
def maxD : List D → Option RV
  | [.lst ds] => match asInts ds with
    | some (n :: ns) => some (.sh (.int (top (n :: ns))))
    | _ => none
  | _ => none
theorem bD_max (hc : X.calm = true) : CallR X (.builtin "max") (rPure (ct X) maxD) := by
  rintro pins s σ H xs us Q I r ⟨da, O, ds, rv, hO, p, eg, q⟩
  unfold maxD at eg
  split at eg
  · rename_i es
    split at eg
    · rename_i n ns e
      cases eg
      obtain rfl := asInts_some e
      obtain ⟨v, rfl, P⟩ := p.one
      obtain ⟨a, vs, rfl, at_, ra⟩ := P.lst
      obtain rfl := ra.ints_inv
      refine cr_max hc pins s σ H _ us Q I r ⟨a, n :: ns, rfl, .inl (.inl at_), by simp, fun m h1 h2 => ?_⟩
      rw [top_of h1 h2]
      exact q _ _ (Ex.refl _) (.int _)
    · cases eg
  · cases eg
/-! ### xs * n -/
def repD : D → D → Option RV
  | .lst ds, .int n => if n ≤ 1000 ∧ -1000 ≤ n ∧ ds.length ≤ 1000 then some (.fr (.lst (List.replicate n.toNat ds).flatten)) else none
  | _, _ => none
theorem RepAll.rep {c : Ct} {da : Option Addr} {G : Hp} {vs : List V} {ds : List D} (h : RepAll c da G vs ds) : ∀ n : Nat, RepAll c da G (List.replicate n vs).flatten (List.replicate n ds).flatten
  | 0 => .nil
  | n + 1 => by
    rw [List.replicate_succ, List.replicate_succ, List.flatten_cons, List.flatten_cons]
    exact h.append (RepAll.rep h n)
theorem opD_rep : OpR X (binaryOp .Mult) (rP2 (ct X) repD) := by
  rintro pins s σ H x y v u Q I rx ry ⟨da, O, d1, d2, r, hO, p1, p2, eg, q⟩
  unfold repD at eg
  split at eg
  · split at eg
    · rename_i ds n hc
      cases eg
      obtain ⟨a, vs, rfl, at_, ra⟩ := p1.lst
      obtain rfl := p2.int
      have l := ra.length
      refine op_rep pins s σ H _ _ v u Q I rx ry ⟨a, n, vs, rfl, rfl, at_, by omega, by omega, ?_, fun p np => q _ _ (Ex.new np) (repN_lst np (RepAll.rep ra _))⟩
      have : vs.length * n.toNat ≤ 1000 * 1000 := Nat.mul_le_mul (by omega) (by omega)
      exact small_fits this
    · cases eg
  · cases eg
/-! ### x.index(y) -/
def indexD (a : Str) : D → Option RV
  | .str b => (match Builtin.Str.occurrences a b 0 a.length 1 with
    | i :: _ => some (.sh (.int (i : Nat)))
    | [] => none)
  | _ => none
theorem mD_index : MtR X "str.index" (fun x xs H Q => ∃ s y, x = .str s ∧ xs = [y] ∧ rP1 (ct X) (indexD s) y H Q) := by
  rintro pins s σ H x xs v us Q I rx rs ⟨a, y, rfl, rfl, da, O, d, r, hO, p, eg, q⟩
  unfold indexD at eg
  split at eg
  · rename_i b
    split at eg
    · rename_i i rest e
      cases eg
      obtain rfl := p.str
      exact mt_sindex pins s σ H _ _ v us Q I rx rs ⟨a, b, i, rest, rfl, rfl, e, q _ _ (Ex.refl _) (.int _)⟩
    · cases eg
  · cases eg
end
end FD

end sec_FD22
section sec_FD23
set_option maxRecDepth 100000
set_option maxHeartbeats 5000000
/-! FD23: (*a, *b). -/
namespace FD
open PySem L2
variable [Tabl]
section
variable {X : Cx} {a b : Expr} {pos p p2 : Pos} {fa fb : M RV} {x1 : Nat}
def starM (fa fb : M RV) : M RV := bindM fa fun r1 => bindM (escR r1) fun d1 => bindM fb fun r2 => bindM (escR r2) fun d2 => fun ρ w => match seqD d1, seqD d2 with
  | some xs, some ys => if xs.length + ys.length ≤ 1000000 then some (.sh (.tup (xs ++ ys)), ρ, w) else none
  | _, _ => none
theorem bindM_mk {α β : Type} {f : M α} {g : α → M β} {ρ ρ1 ρ2 : Env} {w w1 w2 : W} {x : α} {y : β} (h : f ρ w = some (x, ρ1, w1)) (k : g x ρ1 w1 = some (y, ρ2, w2)) : bindM f g ρ w = some (y, ρ2, w2) := by
  unfold bindM
  rw [h]
  exact k
/-- a sequence, as it stands in the heap -/
theorem Rep.seq {c : Ct} {da : Option Addr} {O : List Addr} {H : Hp} {v : V} {d : D} {ds : List D} (h : Rep c da (vis O H) v d) (e : seqD d = some ds) : ∃ a vs, v = .ref a ∧ (SqT c.K H a vs ∨ SqL c.K H a vs) ∧ RepAll c da (vis O H) vs ds := by
  cases h with
  | lst s r =>
    cases e
    exact ⟨_, _, rfl, .inr (vis_ex.sl (SqL.of s)), r⟩
  | tup s r =>
    cases e
    exact ⟨_, _, rfl, .inl (.inl (.inl (vis_ex _ _ s))), r⟩
  | ktup s r =>
    cases e
    exact ⟨_, _, rfl, .inl (vis_ex.st s), r⟩
  | _ => cases e
theorem fe_star2 (ha : FE X a fa) (hb : FE X b fb) (h1 : starEach [.Starred a p, .Starred b p2] X.env = (true, eval a X.env) :: starEach [.Starred b p2] X.env := by rfl) (h2 : starEach [.Starred b p2] X.env = (true, eval b X.env) :: starEach [] X.env := by rfl) :
    FE X (.Tuple [.Starred a p, .Starred b p2] x1 pos) (starM fa fb) := fun F => PE.wk (pe_tup (StX.pa_star (ha F) (StX.pa_star (hb F) pa_nil h2) h1)) fun σ H Q q => by
  obtain ⟨O, ρ, w, r, ρ', w', S, e, k⟩ := q
  refine tE_then S e fun v O1 ρ1 w1 H1 r1 S1 e1 R1 h1 => ?_
  obtain ⟨d1, ρ2, w2, h2, h3⟩ := bindM_some h1
  obtain ⟨rfl, O2, S2, k2, rd⟩ := escR_ok S1 R1.hold h2
  obtain ⟨r2, ρ3, w3, h4, h5⟩ := bindM_some h3
  obtain ⟨d2, ρ4, w4, h6, h7⟩ := bindM_some h5
  split at h7
  · rename_i xs ys q1 q2
    split at h7
    · rename_i hl
      cases h7
      obtain ⟨a1, vs, rfl, sq, ra⟩ := rd.seq q1
      refine ⟨a1, vs, rfl, sq, ?_⟩
      refine tE_then S2 (bindM_mk h4 h6) fun v2 O3 ρ5 w5 H3 r3 S3 e3 R3 h8 => ?_
      obtain ⟨rfl, O4, S4, k4, rd2⟩ := escR_ok S3 R3.hold h8
      obtain ⟨a2, us, rfl, sq2, ra2⟩ := rd2.seq q2
      refine ⟨a2, us, rfl, sq2, ?_⟩
      have l1 := ra.length
      have l2 := ra2.length
      refine ⟨small_fits (by rw [List.append_nil, List.length_append]; omega), fun n nn => ?_⟩
      rw [List.append_nil]
      have x2 : Ex H3 (upd H3 n (.tup (vs ++ us))) := Ex.new nn
      have nO : n ∉ O4 := fun z => by
        obtain ⟨o, y, _⟩ := S4.trk n z
        rw [nn] at y
        cases y
      refine k _ O4 _ (S4.grow x2) ((((e1.trans k2).trans e3).trans k4).trans (vis_mono x2)) (.tup ?_ (((ra.mono (e3.trans k4)).append ra2).mono (vis_mono x2)))
      rw [vis_out nO]
      exact upd_same
    · cases h7
  · cases h7
end
end FD

end sec_FD23
section sec_FD24
set_option maxRecDepth 100000
set_option maxHeartbeats 5000000
/-! FD24: x[k] = v, x a slot's own list. -/
namespace FD
open PySem L2
variable [Tabl]
def lputM (i : Nat) (fv fk : M RV) : M Fl := bindM fv fun r1 => bindM (escR r1) fun d => fun ρ0 w0 => (match ownL ρ0 i with
  | some _ => bindM fk (fun r2 => fun ρ w => match ownL ρ i with
    | some ds => (match peek ρ r2 with
      | some (.int n) => if 0 ≤ n ∧ n < ds.length then some (.nx, ρ.set i (some (.own (.lst (ds.set n.toNat d)))), w) else none
      | _ => none)
    | none => none) ρ0 w0
  | none => none)
section
variable {X : Cx} {e e2 : Expr} {pos p pos' : Pos} {x : Str} {i : Nat} {fk fv : M RV}
theorem fs_lput (hv : PE X (.Name x p) (tVar i)) (hk : FE X e fk) (he : FE X e2 fv) (hs : swapsWithSole [.Subscript (.Name x p) e pos'] e2 pos.line X.env = pure false := by rfl) (hw : swappedStores [.Subscript (.Name x p) e pos'] e2 X.env = pure none := by rfl)
    (h1 : (assignEach [.Subscript (.Name x p) e pos'] X.env).map (·.2) = [assign (.Subscript (.Name x p) e pos') X.env] := by rfl)
    (ha : ∀ v, assign (.Subscript (.Name x p) e pos') X.env v = (do
      let self ← holding [v] (eval (.Name x p) X.env)
      let at_ ← holding [v, self] (eval e X.env)
      standAt pos'
      holding [v, self, at_] (setItem self at_ v)
      release [v, self, at_] []) := by intro _; rfl) :
    FS X (.Assign [.Subscript (.Name x p) e pos'] e2 pos) (lputM i fv fk) := fun F => PS.wk (ps_asg (he F) (pg_sub hv (hk F) set_list ha) hs hw h1) fun E σ H h => by
  obtain ⟨O, ρ, w, fl, ρ', w', S, e, k⟩ := h
  refine tE_then S e fun v O1 ρ1 w1 H1 r1 S1 e1 R1 h1 => ?_
  obtain ⟨d, ρ2, w2, h2, h3⟩ := bindM_some h1
  obtain ⟨rfl, O2, S2, k2, rd⟩ := escR_ok S1 R1.hold h2
  split at h3
  · rename_i ps0 e0
    obtain ⟨a, xs0, s1, q0, _⟩ := own_obj S2 e0
    refine ⟨.ref a, s1, ?_⟩
    refine tE_then S2 h3 fun y O3 ρ3 w3 H3 r3 S3 e3 R3 h4 => ?_
    split at h4
    · rename_i ds e5
      split at h4
      · rename_i n pk
        split at h4
        · rename_i hl
          cases h4
          obtain ⟨a', xs, s3, q3, rr⟩ := own_obj S3 e5
          rw [s1] at s3
          cases s3
          have ey := (R3.hold.peek S3 pk).int
          subst ey
          have len := rr.length
          refine ⟨a, xs, n, n.toNat, rfl, rfl, q3, ?_, ?_⟩
          · rw [len]
            unfold ixN
            rw [if_pos hl.1, if_pos hl.2]
          · obtain ⟨S4, v4⟩ := S3.pokeOwn (ownL_some e5) s1 (.inl ⟨xs.set n.toNat v, ds.set n.toNat d, rfl, rfl, rr.set _ (rd.mono e3)⟩)
            exact k _ O3 _ S4 (by rw [v4]; exact (e1.trans k2).trans e3)
        · cases h4
      · cases h4
    · cases h4
  · cases h3
end
end FD

end sec_FD24
section sec_FD25
set_option maxRecDepth 100000
set_option maxHeartbeats 5000000
/-! FD25: either of two operations; x in a list; x or y by truth; chains; own __len__, __getitem__, own operators. -/
namespace FD
open PySem L2
variable [Tabl]
section
variable {X : Cx} {a b e e2 c1 o : Expr} {rest : List Expr} {pos p p2 : Pos} {fa fb fc fe : M RV} {k j : Nat} {cn : Str}
/-- the one, or else the other -/
def orD (g1 g2 : D → D → Option RV) (a b : D) : Option RV := match g1 a b with
  | some r => some r
  | none => g2 a b
theorem opD_or {f : Value → Value → Sem Value} {g1 g2 : D → D → Option RV} (h1 : OpR X f (rP2 (ct X) g1)) (h2 : OpR X f (rP2 (ct X) g2)) : OpR X f (rP2 (ct X) (orD g1 g2)) := by
  intro pins s σ H x y v u Q I rx ry h
  obtain ⟨da, O, d1, d2, r, hO, p1, p2, eg, q⟩ := h
  unfold orD at eg
  split at eg
  · rename_i r' e
    cases eg
    exact h1 pins s σ H x y v u Q I rx ry ⟨da, O, d1, d2, r, hO, p1, p2, e, q⟩
  · exact h2 pins s σ H x y v u Q I rx ry ⟨da, O, d1, d2, r, hO, p1, p2, eg, q⟩
/-- x in a list of data -/
def inL (no : Bool) (a b : D) : Option RV := match toPy a with
  | some p => (match toPy b with
    | some (.list qs) => if SeqAt.shaped p = true ∧ SeqAt.shaped (.list qs) = true then some (.sh (.bl (if no then !(qs.any fun z => PyData.eqv z p) else qs.any fun z => PyData.eqv z p))) else none
    | _ => none)
  | none => none
theorem inL_some {no : Bool} {a b : D} {r : RV} (h : inL no a b = some r) : ∃ p qs, toPy a = some p ∧ toPy b = some (.list qs) ∧ SeqAt.shaped p = true ∧ SeqAt.shaped (.list qs) = true ∧ r = .sh (.bl (if no then !(qs.any fun z => PyData.eqv z p) else qs.any fun z => PyData.eqv z p)) := by
  unfold inL at h
  split at h
  · rename_i p e1
    split at h
    · rename_i qs e2
      split at h
      · rename_i hs
        cases h
        exact ⟨p, qs, e1, e2, hs.1, hs.2, rfl⟩
      · cases h
    · cases h
  · cases h
theorem opD_inL (hr : Room k X.A) : OpR X (compareOp .In) (rP2 (ct X) (inL false)) := by
  intro pins s σ H x y v u Q I rx ry h
  obtain ⟨da, O, d1, d2, r, hO, p1, p2, eg, q⟩ := h
  obtain ⟨p, qs, e1, e2, s1, s2, rfl⟩ := inL_some eg
  exact op_inD (by have := hr.un; omega) pins s σ H x y v u Q I rx ry ⟨p, qs, p1.dp e1, p2.dp e2, s1, s2, q _ _ (Ex.refl _) (.bl _)⟩
theorem opD_notInL (hr : Room k X.A) : OpR X (compareOp .NotIn) (rP2 (ct X) (inL true)) := by
  intro pins s σ H x y v u Q I rx ry h
  obtain ⟨da, O, d1, d2, r, hO, p1, p2, eg, q⟩ := h
  obtain ⟨p, qs, e1, e2, s1, s2, rfl⟩ := inL_some eg
  exact op_notInD (by have := hr.un; omega) pins s σ H x y v u Q I rx ry ⟨p, qs, p1.dp e1, p2.dp e2, s1, s2, q _ _ (Ex.refl _) (.bl _)⟩
/-! ### x or y, by truth: texts and numbers -/
def truD : D → Option Bool
  | .non => some false
  | .bl b => some b
  | .int i => some (i != 0)
  | .str y => if y.length ≤ 1000000 then some ((y.length : Int) != 0) else none
  | _ => none
theorem tru_of {c : Ct} {da : Option Addr} {G : Hp} {H : Hp} {v : V} {d : D} {b : Bool} (h : Rep c da G v d) (e : truD d = some b) : TruV c.K v H b := by
  cases h <;> simp only [truD] at e <;> first | (cases e; first | exact rfl | trivial) | skip
  · split at e
    · rename_i hl
      cases e
      exact ⟨small_fits hl, rfl⟩
    · cases e
  all_goals cases e
def orVM (fa fb : M RV) : M RV := bindM fa fun r => match r with
  | .sh d => (match truD d with
    | some true => pureM (.sh d)
    | some false => fb
    | none => failM)
  | _ => failM
theorem fe_orV (ha : FE X a fa) (hb : FE X (.BoolOp .Or (b :: rest) pos) fb) : FE X (.BoolOp .Or (a :: b :: rest) pos) (orVM fa fb) := fun F => PE.wk (pe_orT (ha F) (hb F)) fun σ H Q q => by
  obtain ⟨O, ρ, w, r, ρ', w', S, e, k⟩ := q
  refine tE_then S e fun v O1 ρ1 w1 H1 r1 S1 e1 R1 h1 => ?_
  cases r1 with
  | sh d =>
    dsimp only at h1
    cases et : truD d with
    | none =>
      rw [et] at h1
      cases h1
    | some bb =>
      rw [et] at h1
      cases bb with
      | true =>
        cases h1
        exact ⟨true, tru_of R1 et, k _ O1 H1 S1 e1 R1⟩
      | false => exact ⟨false, tru_of R1 et, O1, ρ1, w1, r, ρ', w', S1, h1, fun v O2 H2 S2 e2 R => k v O2 H2 S2 (e1.trans e2) (R.less e1)⟩
  | fr d => cases h1
  | ow i => cases h1
/-! ### a < b < c -/
def chM (g g' : D → D → Option RV) (fa fb fc : M RV) : M RV := bindM fa fun r1 => bindM fb fun r2 => bindM (lift2 g r1 r2) fun z => match z with
  | .sh (.bl true) => bindM fc fun r3 => lift2 g' r2 r3
  | .sh (.bl false) => pureM (.sh (.bl false))
  | _ => failM
theorem ch_read {c : Ct} {F : Fm} {g g' : D → D → Option RV} {σ : L2.St} {H : Hp} {Q : VK} (h : tE c F (chM g g' fa fb fc) σ H Q) : tChain (rP2 c g) (rP2 c g') (tE c F fa) (tE c F fb) (tE c F fc) σ H Q := by
  obtain ⟨O, ρ, w, r, ρ', w', S, e, k⟩ := h
  refine tE_then S e fun x O1 ρ1 w1 H1 r1 S1 e1 R1 h1 => ?_
  refine tE_then S1 h1 fun y O2 ρ2 w2 H2 r2 S2 e2 R2 h2 => ?_
  obtain ⟨z, ρ3, w3, h3, h4⟩ := bindM_some h2
  obtain ⟨d1, d2, r', p1, p2, eg, ez⟩ := lift2_some h3
  cases ez
  refine ⟨F.dr.da, O2, d1, d2, z, S2.trk, (R1.hold.mono e2).peek S2 p1, R2.hold.peek S2 p2, eg, fun v H3 e3 n => ?_⟩
  have S3 := S2.grow e3
  have x3 := (e1.trans e2).trans (vis_mono e3)
  split at h4
  · cases n
    refine ⟨true, rfl, ?_⟩
    refine tE_then S3 h4 fun z O4 ρ4 w4 H4 r4 S4 e4 R4 h5 => ?_
    obtain ⟨d3, d4, r5, p3, p4, eg5, ez5⟩ := lift2_some h5
    cases ez5
    exact ⟨F.dr.da, O4, d3, d4, r, S4.trk, (R2.hold.mono ((vis_mono e3).trans e4)).peek S4 p3, R4.hold.peek S4 p4, eg5, fun v H5 e5 n => k v O4 H5 (S4.grow e5) ((x3.trans e4).trans (vis_mono e5)) ((n.out S4 e5).less (x3.trans e4))⟩
  · cases n
    cases h4
    exact ⟨false, rfl, k _ O2 H3 S3 x3 (Rep.bl false)⟩
  · cases h4
theorem fe_chain {op op' : CmpOp} {g g' : D → D → Option RV} (ho : OpR X (compareOp op) (rP2 (ct X) g)) (ho' : OpR X (compareOp op') (rP2 (ct X) g')) (ha : FE X a fa) (hb : FE X b fb) (hc : FE X c1 fc)
    (hm : lastMarks [op, op'] [b, c1] = false := by with_unfolding_all rfl) : FE X (.Compare a [op, op'] [b, c1] pos) (chM g g' fa fb fc) := fun F => PE.wk (pe_chain ho ho' (ha F) (hb F) (hc F) hm) fun σ H Q q => ch_read q
theorem ft_chain {op op' : CmpOp} {g g' : D → D → Option RV} (ho : OpR X (compareOp op) (rP2 (ct X) g)) (ho' : OpR X (compareOp op') (rP2 (ct X) g')) (ha : FE X a fa) (hb : FE X b fb) (hc : FE X c1 fc)
    (hm : lastMarks [op, op'] [b, c1] = false := by with_unfolding_all rfl) : FT X (.Compare a [op, op'] [b, c1] pos) (boolM (chM g g' fa fb fc)) := fun F => PT.wk (pt_chain ho ho' (ha F) (hb F) (hc F) hm) fun σ H Q q => by
    have q' := bool_read q
    exact ch_read q'
/-! ### own special methods -/
/-- the class cn has the own special method nm -/
structure SpcD (P : Program) (w : World) (K : PySem.W.Frag) (mg : Str → Option Value) (base : Heap) (k : Nat) (cn nm : Str) (n : Nat) (den : List D → W → Option (RV × W)) : Prop where
  ex : ∃ (C f : Addr) (fd : FuncData) (ps : List Str), mg cn = some (.ref C) ∧ PySem.W.selfFirst K C = true ∧ PySem.W.findIn K (.ref C) nm = some (some (.ref f)) ∧ PySem.W.isFn K (.ref f) = true ∧ PySem.W.fnIn K f = true ∧ FnOk P w K mg base CX0 k f fd ps (spD ⟨K, mg⟩ n den) ∧ Binds K fd ps []
/-- an instance, as it stands -/
theorem inst_at {pins : List (Addr × PySem.Obj)} {σ : L2.St} {H : Hp} {s : Shared} {x C dx : Addr} {fs : List (Str × V)} (I : Inv X pins σ H s) (h : H x = some (.ins C dx fs)) : ∃ ox od, PySem.W.InstAt s.heap x ox C od := by
  obtain ⟨mA, OM, _⟩ := ins_get I.hok h
  obtain ⟨od, J, _⟩ := OM.look
  exact ⟨_, _, J⟩
/-- an instance of cn that is given away -/
def insR (cn : Str) (r : RV) : M D := bindM (escR r) fun d => match d with
  | .ins c' gs => if c' = cn then pureM d else failM
  | _ => failM
theorem insR_ok {c : Ct} {F : Fm} {O : List Addr} {ρ ρ' : Env} {w w' : W} {σ : L2.St} {H : Hp} {r : RV} {v : V} {d : D} (S : SR c F O ρ w σ H) (h : Hold c F O σ H r v) (e : insR cn r ρ w = some (d, ρ', w')) :
    w' = w ∧ ∃ O' a C dx fs, SR c F O' ρ' w σ H ∧ Ex (vis O H) (vis O' H) ∧ Rep c F.dr.da (vis O' H) v d ∧ v = .ref a ∧ H a = some (.ins C dx fs) ∧ c.mg cn = some (.ref C) := by
  obtain ⟨d1, ρ1, w1, e1, e2⟩ := bindM_some e
  obtain ⟨ew, O', S', k, r'⟩ := escR_ok S h e1
  cases id r' with
  | @ins a C dx fs c' gs ea mc rf =>
    dsimp only at e2
    by_cases q : c' = cn
    · rw [if_pos q] at e2
      cases e2
      subst q
      exact ⟨ew, O', _, _, _, _, S', k, r', rfl, vis_ex _ _ ea, mc⟩
    · rw [if_neg q] at e2
      cases e2
  | _ => cases e2
/-- len(o) -/
def lenOM (cn : Str) (den : List D → W → Option (RV × W)) (fa : M RV) : M RV := bindM fa fun r => bindM (insR cn r) fun d => bindM (runD den [d]) fun z => match z with
  | .sh (.int n) => if 0 ≤ n ∧ n ≤ 1000000 then pureM (.sh (.int n)) else failM
  | _ => failM
theorem cr_lenO {C f : Addr} {fd : FuncData} {ps : List Str} {sp : Sp} (h1 : PySem.W.findIn X.K (.ref C) "__len__" = some (some (.ref f))) (h2 : PySem.W.isFn X.K (.ref f) = true) (FO : FnOk X.prog X.w X.K X.mg X.base CX0 k f fd ps sp) (hb : Binds X.K fd ps []) (hr : Room (k + 1) X.A) :
    CallR X (.builtin "len") (fun vs H Q => ∃ a dx fs, vs = [V.ref a] ∧ H a = some (.ins C dx fs) ∧ sp vs H (fun v H' => ∃ n, v = .int n ∧ 0 ≤ n ∧ n ≤ 1000000 ∧ Q v H') E0) := by
  rintro pins s σ H _ us Q I r ⟨a, dx, fs, rfl, ea, q⟩
  obtain ⟨ox, od, J⟩ := inst_at I ea
  obtain ⟨m, hF⟩ := I.fr
  have e : us = [.ref a] := Vals.ref1 r
  subst e
  refine PySem.W.len_K hF I.ok.mod.kin J h1 h2 ?_
  refine wpAny_mono (run_any (us := [.ref a]) (vs := [.ref a]) FO hr.in1 I.env0.in1 hb I (.cons rfl .nil) q) (fun v s' z => ?_) fun _ _ x => x
  obtain ⟨z', H', I', rz, n, rfl, n0, n1, qz⟩ := z
  obtain ⟨t, rfl⟩ := rz
  refine ⟨⟨n0, by omega⟩, .int n, H', ?_, ⟨_, rfl⟩, qz⟩
  exact I'.tok _
end
end FD

end sec_FD25
section sec_FD26
set_option maxRecDepth 100000
set_option maxHeartbeats 5000000
/-! FD26: len(o), o[i], a op b by own special methods. -/
namespace FD
open PySem L2
variable [Tabl]
section
variable {X : Cx} {a b e e2 c1 o : Expr} {rest : List Expr} {pos p p2 : Pos} {fa fb fc fe : M RV} {k j : Nat} {cn : Str} {den : List D → W → Option (RV × W)}
theorem same_cls {K : Str → Option Value} {cn : Str} {C C' : Addr} (h : K cn = some (.ref C)) (h' : K cn = some (.ref C')) : C' = C := by
  rw [h] at h'
  cases h'
  rfl
theorem fe_lenO (cl : SpcD X.prog X.w X.K X.mg X.base k cn "__len__" 1 den) (hr : Room j X.A) (hg : Gl X "len") (hm : X.mg "len" = none) (ha : FE X a fa) (hk : k + 1 ≤ j := by decide)
    (he : starEach [a] X.env = (false, eval a X.env) :: starEach [] X.env := by rfl) (hpl : (backTo pos (starEach [] X.env)).any (·.1) = false := by rfl) : FE X (.Call (.Name "len" p) [a] [] pos) (lenOM cn den fa) := fun F => by
  obtain ⟨C, f, fd, ps, mc, sf, h1, h2, h3, FO, hb⟩ := cl.ex
  refine PE.wk (pe_callB (cr_lenO h1 h2 FO hb (hr.mono hk)) hg hm boot_len (pa_cons (ha F) pa_nil he) (by decide) (by decide) he hpl) fun σ H Q q => ?_
  obtain ⟨O, ρ, w, r, ρ', w', S, e, k⟩ := q
  refine tE_then S e fun x O1 ρ1 w1 H1 r1 S1 e1 R1 hh => ?_
  obtain ⟨d1, ρ2, w2, g2, g3⟩ := bindM_some hh
  obtain ⟨rfl, O2, y, C', dx, fs, S2, k2, r2, ex, ea, mc'⟩ := insR_ok S1 R1.hold g2
  obtain rfl := same_cls mc mc'
  obtain ⟨z, ρ3, w3, g4, g5⟩ := bindM_some g3
  obtain ⟨r', w5, h7, ez⟩ := runD_some g4
  cases ez
  subst ex
  refine ⟨y, dx, fs, rfl, ea, ?_⟩
  refine sp_of (E := E0) (vs := [.ref y]) S2 (.cons r2 .nil) rfl h7 fun v H' S5 e5 R5 => ?_
  split at g5
  · rename_i n
    split at g5
    · rename_i hn
      cases g5
      cases R5
      exact ⟨n, rfl, hn.1, hn.2, k _ O2 H' S5 ((e1.trans k2).trans e5) (.int n)⟩
    · cases g5
  · cases g5
/-! ### a op b -/
def opOM (cn : Str) (den : List D → W → Option (RV × W)) (fa fb : M RV) : M RV := bindM fa fun r1 => bindM fb fun r2 => bindM (insR cn r1) fun d1 => bindM (insR cn r2) fun d2 => runD den [d1, d2]
theorem op_O {op : Operator} {C f : Addr} {fd : FuncData} {ps : List Str} {sp : Sp} (sf : PySem.W.selfFirst X.K C = true) (h1 : PySem.W.findIn X.K (.ref C) (PySem.dunder op.info.2) = some (some (.ref f))) (h2 : PySem.W.isFn X.K (.ref f) = true) (FO : FnOk X.prog X.w X.K X.mg X.base CX0 k f fd ps sp) (hb : Binds X.K fd ps []) (hr : Room k X.A) :
    OpR X (binaryOp op) (fun x y H Q => ∃ a dx fs a' dx' fs', x = V.ref a ∧ H a = some (.ins C dx fs) ∧ y = V.ref a' ∧ H a' = some (.ins C dx' fs') ∧ sp [x, y] H Q E0) := by
  rintro pins s σ H _ _ v u Q I rx ry ⟨a, dx, fs, a', dx', fs', rfl, ea, rfl, ea', q⟩
  obtain ⟨ox, od, J⟩ := inst_at I ea
  obtain ⟨ox', od', J'⟩ := inst_at I ea'
  obtain ⟨m, hF⟩ := I.fr
  obtain rfl : v = .ref a := rx
  obtain rfl : u = .ref a' := ry
  refine PySem.W.binop_K hF I.ok.mod.kin J J'.type sf h1 h2 ?_
  refine wpAny_mono (run_any (us := [.ref a, .ref a']) (vs := [.ref a, .ref a']) FO hr I.env0 hb I (.cons rfl (.cons rfl .nil)) q) (fun v s' z => ?_) fun _ _ x => x
  obtain ⟨z', H', I', rz, qz⟩ := z
  exact SlX.cmpback rz ⟨z', H', I', rz, qz⟩
theorem fe_opO {op : Operator} {nm : Str} (cl : SpcD X.prog X.w X.K X.mg X.base k cn nm 2 den) (en : PySem.dunder op.info.2 = nm) (hr : Room j X.A) (ha : FE X a fa) (hb : FE X b fb) (hk : k ≤ j := by decide) : FE X (.BinOp a op b pos) (opOM cn den fa fb) := fun F => by
  subst en
  obtain ⟨C, f, fd, ps, mc, sf, h1, h2, h3, FO, hbn⟩ := cl.ex
  refine PE.wk (pe_op (op_O sf h1 h2 FO hbn (hr.mono hk)) (ha F) (hb F)) fun σ H Q q => ?_
  obtain ⟨O, ρ, w, r, ρ', w', S, e, k⟩ := q
  refine tE_then S e fun x O1 ρ1 w1 H1 r1 S1 e1 R1 hh => ?_
  refine tE_then S1 hh fun y O2 ρ2 w2 H2 r2 S2 e2 R2 hh2 => ?_
  obtain ⟨d1, ρ3, w3, g2, g3⟩ := bindM_some hh2
  obtain ⟨rfl, O3, z, C', dx, fs, S3, k3, r3, ex, ea, mc'⟩ := insR_ok S2 (R1.hold.mono e2) g2
  obtain ⟨d2, ρ4, w4, g4, g5⟩ := bindM_some g3
  obtain ⟨rfl, O4, z', C'', dx', fs', S4, k4, r4, ey, ea', mc''⟩ := insR_ok S3 (R2.hold.mono k3) g4
  obtain rfl := same_cls mc mc'
  obtain rfl := same_cls mc mc''
  obtain ⟨r', w5, h7, ez⟩ := runD_some g5
  cases ez
  subst ex
  subst ey
  refine ⟨z, dx, fs, z', dx', fs', rfl, ea, rfl, ea', ?_⟩
  exact sp_of (E := E0) S4 (.cons (r3.mono k4) (.cons r4 .nil)) rfl h7 fun v H' S5 e5 R5 => k v O4 H' S5 ((((e1.trans e2).trans k3).trans k4).trans e5) (R5.less (((e1.trans e2).trans k3).trans k4))
/-! ### o[i] -/
def ixOM (cn : Str) (den : List D → W → Option (RV × W)) (fa fb : M RV) : M RV := bindM fa fun r1 => bindM fb fun r2 => bindM (insR cn r1) fun d1 => bindM (escR r2) fun d2 => runD den [d1, d2]
theorem fe_ixO (cl : SpcD X.prog X.w X.K X.mg X.base k cn "__getitem__" 2 den) (hr : Room j X.A) (ha : FE X a fa) (hb : FE X b fb) (hk : k + 1 ≤ j := by decide)
    (hs : ∀ o i, subscripted b true o i = runValue (.builtin "lifetime.subscript" ⟨[o, i], []⟩) := by intro _ _; rfl) : FE X (.Subscript a b pos) (ixOM cn den fa fb) := fun F => by
  obtain ⟨C, f, fd, ps, mc, sf, h1, h2, h3, FO, hbn⟩ := cl.ex
  refine ⟨fun pins s σ H Q I q => ?_⟩
  obtain ⟨O, ρ, w, r, ρ', w', S, e, k⟩ := q
  refine PyProof.Rows.Subscript_ ?_
  refine wpAny_mono ((ha F).run pins s σ H (fun x H1 => tE (ct X) F fb σ H1 fun y H2 => ∃ z dx fs, x = .ref z ∧ H2 z = some (.ins C dx fs) ∧ spD (ct X) 2 den [x, y] H2 Q E0) I ?_) (fun v s1 z1 => ?_) fun _ _ x => x
  · refine tE_then S e fun x O1 ρ1 w1 H1 r1 S1 e1 R1 hh => ?_
    refine tE_then S1 hh fun y O2 ρ2 w2 H2 r2 S2 e2 R2 hh2 => ?_
    obtain ⟨d1, ρ3, w3, g2, g3⟩ := bindM_some hh2
    obtain ⟨rfl, O3, z, C', dx, fs, S3, k3, r3, ex, ea, mc'⟩ := insR_ok S2 (R1.hold.mono e2) g2
    obtain rfl := same_cls mc mc'
    obtain ⟨d2, ρ4, w4, g4, g5⟩ := bindM_some g3
    obtain ⟨rfl, O4, S4, k4, r4⟩ := escR_ok S3 (R2.hold.mono k3) g4
    obtain ⟨r', w5, h7, ez⟩ := runD_some g5
    cases ez
    refine ⟨z, dx, fs, ex, ea, ?_⟩
    exact sp_of (E := E0) S4 (.cons (r3.mono k4) (.cons r4 .nil)) rfl h7 fun v H' S5 e5 R5 => k v O4 H' S5 ((((e1.trans e2).trans k3).trans k4).trans e5) (R5.less (((e1.trans e2).trans k3).trans k4))
  · obtain ⟨x, H1, I1, rx, q1⟩ := z1
    refine wpAny_mono ((hb F).run pins s1 σ H1 _ I1 q1) (fun u s2 z2 => ?_) fun _ _ x => x
    obtain ⟨y, H2, I2, ry, z, dx, fs, rfl, ea, q2⟩ := z2
    obtain rfl : v = .ref z := rx
    obtain ⟨ox, od, J⟩ := inst_at I2 ea
    obtain ⟨m, hF⟩ := I2.fr
    exact PySem.W.sub_K hF I2.ok.mod.kin J h1 h3 h2 (run_any (us := [.ref z, u]) (vs := [.ref z, y]) FO (hr.mono hk).in1 I2.env0.in1 hbn I2 (.cons rfl (.cons ry .nil)) q2) (hs _ _)
end
end FD

end sec_FD26
section sec_FD27
set_option maxRecDepth 100000
set_option maxHeartbeats 5000000
/-! FD27: [elt for a in x if .. for b in y if ..]. -/
namespace FD
open PySem L2
variable [Tabl]
theorem wipeE_get {ρ : Env} {i : Nat} {s : Slot} : ∀ {vs : List Nat}, (wipeE ρ vs)[i]? = some (some s) → i ∉ vs ∧ ρ[i]? = some (some s)
  | [], h => ⟨by simp, h⟩
  | v :: vs, h => by
    unfold wipeE at h
    rcases getElem?_set_some h with ⟨rfl, z⟩ | ⟨n, h⟩
    · cases z
    · obtain ⟨m, q⟩ := wipeE_get h
      exact ⟨fun z => (List.mem_cons.mp z).elim (fun y => n y.symm) m, q⟩
/-- a list at Dl grows while expressions run: what stands between two of them -/
structure Grw (c : Ct) (F : Fm) (Dl : Addr) (G : Hp) (σ : L2.St) (O : List Addr) (ρ : Env) (w : W) (H : Hp) (acc : List V) (dacc : List D) : Prop where
  sr : SR c F O ρ w σ H
  mem : Dl ∈ O
  nu : NoSlot ρ σ Dl
  at_ : H Dl = some (.lst acc)
  rep : RepAll c F.dr.da (vis O H) acc dacc
  ex : Ex G (vis O H)
  nF : Dl ∉ F.O0
  n0 : F.H0 Dl = none
  drs : ∀ a ∈ F.dr.as, a ∈ F.O0
section
variable {c : Ct} {F : Fm} {Dl : Addr} {G : Hp} {σ σ' : L2.St} {O O' : List Addr} {ρ ρ' : Env} {w w' : W} {H H' : Hp} {acc : List V} {dacc : List D}
theorem Grw.wipe (g : Grw c F Dl G σ O ρ w H acc dacc) (vs : List Nat) : Grw c F Dl G (L2.wipe σ vs) O (wipeE ρ vs) w H acc dacc where
  sr := g.sr.wipe vs
  mem := g.mem
  nu := fun j e q z => by
    obtain ⟨m, q⟩ := wipeE_get q
    rw [wipe_out m] at z
    exact g.nu j e q z
  at_ := g.at_
  rep := g.rep
  ex := g.ex
  nF := g.nF
  n0 := g.n0
  drs := g.drs
theorem Grw.grow (g : Grw c F Dl G σ O ρ w H acc dacc) (x : Ex H H') : Grw c F Dl G σ O ρ w H' acc dacc where
  sr := g.sr.grow x
  mem := g.mem
  nu := g.nu
  at_ := x _ _ g.at_
  rep := g.rep.mono (vis_mono x)
  ex := g.ex.trans (vis_mono x)
  nF := g.nF
  n0 := g.n0
  drs := g.drs
theorem Grw.in (g : Grw c F Dl G σ O ρ w H acc dacc) : SR c (F.and Dl (.lst acc)) O ρ w σ H := hide_in g.sr g.mem g.nF g.nu g.at_
theorem Grw.out (g : Grw c F Dl G σ O ρ w H acc dacc) (S : SR c (F.and Dl (.lst acc)) O' ρ' w' σ' H') (x : Ex (vis O H) (vis O' H')) : Grw c F Dl G σ' O' ρ' w' H' acc dacc := by
  obtain ⟨S2, q2, m2, u2⟩ := S.out g.nF g.n0 g.drs
  exact ⟨S2, m2, u2, q2, g.rep.mono x, g.ex.trans x, g.nF, g.n0, g.drs⟩
theorem Grw.add (g : Grw c F Dl G σ O ρ w H acc dacc) {v : V} {d : D} (r : Rep c F.dr.da (vis O H) v d) : Grw c F Dl G σ O ρ w (upd H Dl (.lst (acc ++ [v]))) (acc ++ [v]) (dacc ++ [d]) where
  sr := g.sr.poke g.at_ (fun _ z => nomatch z) g.mem g.nF g.nu (.lst (acc ++ [v]))
  mem := g.mem
  nu := g.nu
  at_ := upd_same
  rep := by
    rw [vis_upd g.mem]
    exact g.rep.snoc r
  ex := by
    rw [vis_upd g.mem]
    exact g.ex
  nF := g.nF
  n0 := g.n0
  drs := g.drs
end
def lc2Turn (g : D → M Unit) (tt : M Bool) (fi1 : M (List D)) (vs1 : List Nat) (g1 : D → M Unit) (tt1 : M Bool) (fe : M RV) (d : D) : M (List D) := bindM (g d) fun _ => bindM tt fun b => if b then bindM fi1 fun ds1 => bindM (wipeM vs1) fun _ => (if ds1.length ≤ 1000 then lcL vs1 g1 tt1 fe ds1 else failM) else pureM []
def lc2L (vs : List Nat) (turn : D → M (List D)) : List D → M (List D)
  | [] => pureM []
  | d :: ds => bindM (turn d) fun ys => bindM (wipeM vs) fun _ => bindM (lc2L vs turn ds) fun zs => pureM (ys ++ zs)
def lc2M (fi : M (List D)) (vs : List Nat) (turn : D → M (List D)) : M RV := bindM fi fun ds => fun ρ w =>
  if noOwn ρ vs = true ∧ ds.length ≤ 1000 then match lc2L vs turn ds (wipeE ρ vs) w with
    | some (ys, ρ2, w2) => some (.fr (.lst ys), restE ρ ρ2 vs, w2)
    | none => none
  else none
section
variable {c : Ct} {F : Fm} {σ : L2.St} {H : Hp} {Q : VK}
theorem lc2_read {fi fi1 : M (List D)} {vs js vs1 js1 : List Nat} {g g1 : D → M Unit} {tt tt1 : M Bool} {fe : M RV} (hj : ∀ j ∈ js, j ∈ vs) (hj1 : ∀ j ∈ js1, j ∈ vs1) (hv : ∀ j ∈ vs1, j ∈ vs) (h : tE c F (lc2M fi vs (lc2Turn g tt fi1 vs1 g1 tt1 fe)) σ H Q) :
    tLc2 (eI c fi) (eG c js g) (eT c tt) (eI c fi1) (eG c js1 g1) (eT c tt1) (eE c fe) vs vs1 σ H Q := by
  obtain ⟨O, ρ, w, r, ρ', w', S, e, k⟩ := h
  obtain ⟨ds, ρ1, w1, e1, e2⟩ := bindM_some e
  by_cases hc : noOwn ρ1 vs = true ∧ ds.length ≤ 1000
  · rw [if_pos hc] at e2
    obtain ⟨no, hl⟩ := hc
    split at e2
    · rename_i ys ρ2 w2 e3
      cases e2
      refine ⟨F, O, ρ, w, ds, ρ1, w1, S, e1, fun J O1 H1 S1 x1 W => ?_⟩
      intro Dl hD
      obtain ⟨S2, n2, k2⟩ := S1.hide hD (Ex.new (o := .lst []) hD) upd_same
      have nF : Dl ∉ F.O0 := fun z => n2 (S1.sub Dl z)
      have nu0 : NoSlot ρ1 σ Dl := fun j e q z => by
        obtain ⟨a, o, h1, h2, _⟩ := S1.own j e q
        rw [h1] at z
        cases z
        exact n2 h2
      have g0 : Grw c F Dl (vis O1 H1) σ (Dl :: O1) ρ1 w1 (upd H1 Dl (.lst [])) [] [] := ⟨S2, List.mem_cons_self, nu0, upd_same, .nil, k2, nF, S2.new Dl List.mem_cons_self nF, S1.drs⟩
      refine ⟨fun i m H' => m = ds.length - i ∧ i ≤ ds.length ∧ ∃ O' ρ' wv acc dacc zs, Grw c F Dl (vis O1 H1) (L2.wipe σ vs) O' ρ' wv H' acc dacc ∧ acc.length ≤ i * 1000 ∧ lc2L vs (lc2Turn g tt fi1 vs1 g1 tt1 fe) (ds.drop i) ρ' wv = some (zs, ρ2, w') ∧ dacc ++ zs = ys,
        ⟨ds.length, by simp, Nat.zero_le _, Dl :: O1, _, _, [], [], ys, g0.wipe vs, Nat.zero_le _, by simpa using e3, rfl⟩, ?_⟩
      rintro i m H' ⟨rfl, hi, O3, ρ3, w3, acc, dacc, zs, gw, l3, e4, ey⟩
      obtain ⟨hgo, hstop⟩ := W i O3 H' gw.ex gw.sr.trk gw.sr.cel
      by_cases hlt : i < ds.length
      · obtain ⟨go, yld⟩ := hgo ds[i] (by simp [hlt])
        rw [List.drop_eq_getElem_cons hlt] at e4
        obtain ⟨ys1, ρ4, w4, e5, e6⟩ := bindM_some e4
        obtain ⟨_, ρ5, w5, e7, e8⟩ := bindM_some e6
        obtain ⟨zs', ρ6, w6, e9, e10⟩ := bindM_some e8
        cases e7
        cases e10
        obtain ⟨_, ρ7, w7, e11, e12⟩ := bindM_some e5
        obtain ⟨b, ρ8, w8, e13, e14⟩ := bindM_some e12
        refine .inr ⟨go, fun H9 => ∃ O' ρ' wv acc dacc, Grw c F Dl (vis O1 H1) (L2.wipe σ vs) O' ρ' wv H9 acc dacc ∧ acc.length ≤ (i + 1) * 1000 ∧ lc2L vs (lc2Turn g tt fi1 vs1 g1 tt1 fe) (ds.drop (i + 1)) ρ' wv = some (zs', ρ2, w') ∧ dacc ++ zs' = ys, fun H9 n => ?_, fun x H4 yy => ?_⟩
        · obtain ⟨O', ρ', wv, acc', dacc', a1, a2, a3, a4⟩ := n
          exact ⟨ds.length - (i + 1), by omega, rfl, hlt, O', ρ', wv, acc', dacc', zs', a1, a2, a3, a4⟩
        obtain ⟨x4, r4⟩ := yld x H4 yy
        have g4 := gw.grow x4
        refine ⟨F.and Dl (.lst acc), O3, ρ3, w3, ds[i], ρ7, w7, g4.in, r4, e11, fun σ2 O5 S6 x6 hl6 hk6 => ?_⟩
        have ws : L2.wipe σ2 vs = L2.wipe σ vs := (wipe_same hl6 hk6 hj).trans (wipe_wipe vs)
        refine ⟨ws, F.and Dl (.lst acc), O5, ρ7, w7, b, ρ8, w8, S6, e13, fun O7 H7 S7 x7 => ?_⟩
        cases b with
        | false =>
          cases e14
          have g7 := (g4.out S7 (x6.trans x7)).wipe vs
          rw [ws] at g7
          exact ⟨O7, _, _, acc, dacc, g7, by omega, e9, by simpa using ey⟩
        | true =>
          obtain ⟨ds1, ρ9, w9, e15, e16⟩ := bindM_some e14
          obtain ⟨_, ρa, wa, e17, e18⟩ := bindM_some e16
          cases e17
          refine ⟨F.and Dl (.lst acc), O7, ρ8, w8, ds1, ρ9, w9, S7, e15, fun J1 O9 H9 S9 x9 W1 => ?_⟩
          have g9 := (g4.out S9 ((x6.trans x7).trans x9)).wipe vs1
          by_cases hd1 : ds1.length ≤ 1000
          · rw [if_pos hd1] at e18
            refine ⟨fun j m1 H5 => m1 = ds1.length - j ∧ j ≤ ds1.length ∧ ∃ O' ρ' wv acc' dacc' zs1, Grw c F Dl (vis O9 H9) (L2.wipe σ2 vs1) O' ρ' wv H5 acc' dacc' ∧ Ex (vis O1 H1) (vis O' H5) ∧ acc'.length ≤ i * 1000 + j ∧ lcL vs1 g1 tt1 fe (ds1.drop j) ρ' wv = some (zs1, ρ4, w4) ∧ dacc' ++ zs1 ++ zs' = ys,
              ⟨ds1.length, by simp, Nat.zero_le _, O9, _, _, acc, dacc, ys1, ⟨g9.sr, g9.mem, g9.nu, g9.at_, g9.rep, Ex.refl _, g9.nF, g9.n0, g9.drs⟩, g9.ex, by omega, by simpa using e18, by rw [List.append_assoc]; exact ey⟩, ?_⟩
            rintro j m1 H5 ⟨rfl, hj', Oa, ρa, wa, acc', dacc', zs1, ga, xa, la, ea, eya⟩
            obtain ⟨hgo1, hstop1⟩ := W1 j Oa H5 ga.ex ga.sr.trk ga.sr.cel
            by_cases hlt1 : j < ds1.length
            · obtain ⟨go1, yld1⟩ := hgo1 ds1[j] (by simp [hlt1])
              rw [List.drop_eq_getElem_cons hlt1] at ea
              obtain ⟨y, ρb, wb, eb, ec⟩ := bindM_some ea
              obtain ⟨_, ρc, wc, ed, ee⟩ := bindM_some ec
              obtain ⟨zs2, ρd, wd, ef, eg⟩ := bindM_some ee
              cases ed
              cases eg
              obtain ⟨_, ρe, we, eh, ei⟩ := bindM_some eb
              obtain ⟨b1, ρf, wf, ej, ek⟩ := bindM_some ei
              refine .inr ⟨go1, fun H6 => ∃ O' ρ' wv acc' dacc', Grw c F Dl (vis O9 H9) (L2.wipe σ2 vs1) O' ρ' wv H6 acc' dacc' ∧ Ex (vis O1 H1) (vis O' H6) ∧ acc'.length ≤ i * 1000 + (j + 1) ∧ lcL vs1 g1 tt1 fe (ds1.drop (j + 1)) ρ' wv = some (zs2, ρ4, w4) ∧ dacc' ++ zs2 ++ zs' = ys, fun H6 n => ?_, fun x1' H6 yy1 => ?_⟩
              · obtain ⟨O', ρ', wv, acc1, dacc1, a1, a2, a3, a4, a5⟩ := n
                exact ⟨ds1.length - (j + 1), by omega, rfl, hlt1, O', ρ', wv, acc1, dacc1, zs2, a1, a2, a3, a4, a5⟩
              obtain ⟨x5, r5⟩ := yld1 x1' H6 yy1
              have g5 := ga.grow x5
              have xv5 := xa.trans (vis_mono (O := Oa) x5)
              refine ⟨F.and Dl (.lst acc'), Oa, ρa, wa, ds1[j], ρe, we, g5.in, r5, eh, fun σ3 Ob Sb xb hlb hkb => ?_⟩
              have ws1 : L2.wipe σ3 vs1 = L2.wipe σ2 vs1 := (wipe_same hlb hkb hj1).trans (wipe_wipe vs1)
              refine ⟨ws1, F.and Dl (.lst acc'), Ob, ρe, we, b1, ρf, wf, Sb, ej, fun Oc Hc Sc xc => ?_⟩
              cases b1 with
              | false =>
                cases ek
                have gc := (g5.out Sc (xb.trans xc)).wipe vs1
                rw [ws1] at gc
                exact ⟨Oc, _, _, acc', dacc', gc, (xv5.trans xb).trans xc, by omega, ef, by simpa using eya⟩
              | true =>
                obtain ⟨r, ρg, wg, el, em⟩ := bindM_some ek
                obtain ⟨yd, ρh, wh, en, eo⟩ := bindM_some em
                cases eo
                refine ⟨F.and Dl (.lst acc'), Oc, ρf, wf, r, ρg, wg, Sc, el, fun v Od Hd Sd xd Rd => ?_⟩
                obtain ⟨rfl, Oe, Se, xe, re⟩ := escR_ok Sd Rd.hold en
                have ge := g5.out Se (((xb.trans xc).trans xd).trans xe)
                have hz : acc'.length < 1000001 := by omega
                refine ⟨acc', ge.at_, Nat.lt_of_lt_of_le hz (by decide), ?_⟩
                have gf := (ge.add re).wipe vs1
                rw [ws1] at gf
                refine ⟨Oe, _, _, acc' ++ [v], dacc' ++ [yd], gf, ?_, by simp; omega, ef, ?_⟩
                · rw [vis_upd ge.mem]
                  exact (((xv5.trans xb).trans xc).trans xd).trans xe
                · rw [← eya]
                  simp
            · have ejj : j = ds1.length := by omega
              subst ejj
              rw [List.drop_length] at ea
              cases ea
              refine .inl ⟨hstop1 rfl, ?_⟩
              have gz := ga.wipe vs
              have wz : L2.wipe (L2.wipe σ2 vs1) vs = L2.wipe σ vs := by
                rw [← ws]
                exact wipe_same (wipe_length σ2 vs1) (js := vs1) (fun j hj => wipe_out hj) hv
              rw [wz] at gz
              exact ⟨Oa, _, _, acc', dacc', ⟨gz.sr, gz.mem, gz.nu, gz.at_, gz.rep, xa, gz.nF, gz.n0, gz.drs⟩, by omega, e9, by simpa using eya⟩
          · rw [if_neg hd1] at e18
            cases e18
      · have ei : i = ds.length := by omega
        subst ei
        rw [List.drop_length] at e4
        cases e4
        refine .inl ⟨hstop rfl, ?_⟩
        rw [List.append_nil] at ey
        subst ey
        have Sr := S1.rest no gw.sr gw.ex
        have ur : NoSlot (restE ρ1 ρ2 vs) σ Dl := fun j e q z => by
          rcases restE_get q with ⟨m, y⟩ | ⟨m, y⟩
          · cases hq : ρ1[j]? with
            | none =>
              rw [hq] at y
              cases y
            | some t =>
              rw [hq] at y
              have y' : some (Slot.own e) = t := y
              subst y'
              have z := List.all_eq_true.mp no j m
              rw [hq] at z
              cases z
          · have z' := gw.nu j e y
            rw [wipe_out m] at z'
            exact z' z
        obtain ⟨Ss, xs⟩ := Sr.show nF ur
        have eqO : ∀ b, b ∈ O3 ↔ b ∈ Dl :: (O3.filter fun b => decide (b ≠ Dl)) := fun b => by
          simp only [List.mem_cons, List.mem_filter, decide_eq_true_eq]
          constructor
          · intro z
            by_cases y : b = Dl
            · exact .inl y
            · exact .inr ⟨z, y⟩
          · rintro (z | z)
            · rw [z]; exact gw.mem
            · exact z.1
        refine k (.ref Dl) (O3.filter fun b => decide (b ≠ Dl)) H' Ss (x1.trans (gw.ex.trans xs)) ⟨Dl, .lst acc, rfl, by simp, Sr.congr eqO, gw.at_, .inl ⟨acc, dacc, rfl, rfl, ?_⟩, ?_⟩
        · rw [← vis_congr eqO]
          exact gw.rep
        · rw [← vis_congr eqO]
          exact x1.trans gw.ex
    · cases e2
  · rw [if_neg hc] at e2
    cases e2
end
section
variable {X : Cx} {elt tg iter tg1 iter1 : Expr} {ifs ifs1 : List Expr} {scope : Scope} {own : List (Str × Nat)} {vs1 : List Nat} {pos spos py : Pos} {fi fi1 : M (List D)} {js js1 : List Nat} {g g1 : D → M Unit} {tt tt1 : M Bool} {fe : M RV} {i : Nat} {y : Str}
theorem fe_lc2 (hc : X.calm = true) (hN : X.N.Nodup) (hi : FI X tg iter fi) (ok : BlkOk X.N X.env.scope scope own) (hg : DC.InBlk X scope fun Y => FG Y tg js g) (ht : DC.InBlk X scope fun Y => FTs Y ifs tt)
    (hi1 : DC.InBlk X scope fun Y => FI Y tg1 iter1 fi1) (hg1 : DC.InBlk X scope fun Y => FG Y tg1 js1 g1) (ht1 : DC.InBlk X scope fun Y => FTs Y ifs1 tt1) (he : DC.InBlk X scope fun Y => FE Y elt fe)
    (hv : ∀ i ∈ vs1, i ∈ own.map (·.2) := by decide) (hj : ∀ j ∈ js, j ∈ own.map (·.2) := by decide) (hj1 : ∀ j ∈ js1, j ∈ vs1 := by decide) (hs : ∀ x, foldedSetIterable iter X.env x = pure x := by intro _; rfl) (hs1 : ∀ env x, foldedSetIterable iter1 env x = pure x := by intro _ _; rfl) :
    FE X (.ListComp elt [⟨tg, iter, ifs, 0⟩, ⟨tg1, iter1, ifs1, 0⟩] scope pos) (lc2M fi (own.map (·.2)) (lc2Turn g tt fi1 vs1 g1 tt1 fe)) := fun F =>
  PE.wk (pe_lc2 hc hN hi.any ok hv (fun s H C cl fp => (hg s H C cl fp).any) (fun s H C cl fp => (ht s H C cl fp).any) (fun s H C cl fp => (hi1 s H C cl fp).any) (fun s H C cl fp => (hg1 s H C cl fp).any) (fun s H C cl fp => (ht1 s H C cl fp).any) (fun s H C cl fp => (he s H C cl fp).any) hs hs1) fun σ H Q q => lc2_read hj hj1 hv q
theorem fs_setLc2 (hc : X.calm = true) (hN : X.N.Nodup) (hy : X.N[i]? = some y) (hyl : X.env.scope.names.lookup y = some .local)
    (hsw : swapsWith (.ListComp elt [⟨tg, iter, ifs, 0⟩, ⟨tg1, iter1, ifs1, 0⟩] scope pos) (some (.Name y py)) spos.line X.env = pure true) (hi : FI X tg iter fi) (ok : BlkOk X.N X.env.scope scope own) (hg : DC.InBlk X scope fun Y => FG Y tg js g) (ht : DC.InBlk X scope fun Y => FTs Y ifs tt)
    (hi1 : DC.InBlk X scope fun Y => FI Y tg1 iter1 fi1) (hg1 : DC.InBlk X scope fun Y => FG Y tg1 js1 g1) (ht1 : DC.InBlk X scope fun Y => FTs Y ifs1 tt1) (he : DC.InBlk X scope fun Y => FE Y elt fe)
    (hv : ∀ i ∈ vs1, i ∈ own.map (·.2) := by decide) (hj : ∀ j ∈ js, j ∈ own.map (·.2) := by decide) (hj1 : ∀ j ∈ js1, j ∈ vs1 := by decide) (hs : ∀ x, foldedSetIterable iter X.env x = pure x := by intro _; rfl) (hs1 : ∀ env x, foldedSetIterable iter1 env x = pure x := by intro _ _; rfl) :
    FS X (.Assign [.Name y py] (.ListComp elt [⟨tg, iter, ifs, 0⟩, ⟨tg1, iter1, ifs1, 0⟩] scope pos) spos) (bindM (lc2M fi (own.map (·.2)) (lc2Turn g tt fi1 vs1 g1 tt1 fe)) fun r => nxM (asgM i r)) := fun F =>
  PS.wk (ps_setLc2 hc hN hy hyl hsw hi.any ok hv (fun s H C cl fp => (hg s H C cl fp).any) (fun s H C cl fp => (ht s H C cl fp).any) (fun s H C cl fp => (hi1 s H C cl fp).any) (fun s H C cl fp => (hg1 s H C cl fp).any) (fun s H C cl fp => (ht1 s H C cl fp).any) (fun s H C cl fp => (he s H C cl fp).any) hs hs1) fun E σ H q => by
    obtain ⟨O, ρ, w, fl, ρ', w', S, e, k⟩ := q
    refine lc2_read (F := F) hj hj1 hv (tE_then S e fun v O1 ρ1 w1 H1 r1 S1 e1 R1 h1 => ?_)
    obtain ⟨_, ρ2, w2, h2, h3⟩ := bindM_some h1
    obtain ⟨rfl, O2, S2, x2⟩ := asg_ok S1 e1 R1 h2
    cases h3
    exact k _ O2 H1 S2 x2
end
end FD

end sec_FD27
section sec_FD28
set_option maxRecDepth 100000
set_option maxHeartbeats 5000000
/-! FD28: repr of plain values. -/
namespace FD
open PySem L2
variable [Tabl]
section
variable {X : Cx}
def reprS : List D → Option RV
  | [.non] => some (.sh (.str "None"))
  | [.bl b] => some (.sh (.str (if b then "True" else "False")))
  | [.int i] => if i.natAbs.log2 < 1920 then some (.sh (.str (toString i))) else none
  | [.str x] => if (reprText x).length ≤ 1000000 then some (.sh (.str (reprText x))) else none
  | _ => none
theorem bD_reprS : CallR X (.builtin "repr") (rPure (ct X) reprS) := by
  intro pins s σ H xs us Q I r h
  obtain ⟨da, O, ds, rv, hO, p, eg, q⟩ := h
  unfold reprS at eg
  split at eg
  · cases eg
    obtain ⟨v, rfl, P⟩ := p.one
    rw [P.non] at r
    cases r with
    | cons r1 rr =>
      cases rr
      cases r1
      exact PySem.P.repr_of_none ⟨.str _, H, I.tok _, ⟨_, rfl⟩, q _ _ (Ex.refl _) (.str _)⟩
  · cases eg
    obtain ⟨v, rfl, P⟩ := p.one
    rw [P.bl] at r
    cases r with
    | cons r1 rr =>
      cases rr
      cases r1
      exact PySem.P.repr_of_bool ⟨.str _, H, I.tok _, ⟨_, rfl⟩, q _ _ (Ex.refl _) (.str _)⟩
  · split at eg
    · rename_i hl
      cases eg
      obtain ⟨v, rfl, P⟩ := p.one
      rw [P.int] at r
      cases r with
      | cons r1 rr =>
        cases rr
        obtain ⟨t, rfl⟩ := r1
        exact PySem.P.repr_of_int hl ⟨.str _, H, I.tok _, ⟨_, rfl⟩, q _ _ (Ex.refl _) (.str _)⟩
    · cases eg
  · split at eg
    · rename_i hl
      cases eg
      obtain ⟨v, rfl, P⟩ := p.one
      rw [P.str] at r
      cases r with
      | cons r1 rr =>
        cases rr
        obtain ⟨t, rfl⟩ := r1
        exact PySem.P.repr_of_str ⟨.str _, H, I.tok _, ⟨_, rfl⟩, q _ _ (Ex.refl _) (.str _)⟩ (small_fits hl)
    · cases eg
  · cases eg
def orN (g1 g2 : List D → Option RV) (ds : List D) : Option RV := match g1 ds with
  | some r => some r
  | none => g2 ds
theorem bD_or {f : Value} {g1 g2 : List D → Option RV} (h1 : CallR X f (rPure (ct X) g1)) (h2 : CallR X f (rPure (ct X) g2)) : CallR X f (rPure (ct X) (orN g1 g2)) := by
  intro pins s σ H xs us Q I r h
  obtain ⟨da, O, ds, rv, hO, p, eg, q⟩ := h
  unfold orN at eg
  split at eg
  · rename_i e
    cases eg
    exact h1 pins s σ H xs us Q I r ⟨da, O, ds, _, hO, p, e, q⟩
  · exact h2 pins s σ H xs us Q I r ⟨da, O, ds, rv, hO, p, eg, q⟩
theorem bD_reprU {k : Nat} (hr : Room k X.A) (hG : X.A.guards = some []) : CallR X (.builtin "repr") (rPure (ct X) (orN reprS reprD)) := bD_or bD_reprS (bD_repr hr hG)
end
end FD

end sec_FD28
section sec_FD29
set_option maxRecDepth 100000
set_option maxHeartbeats 5000000
/-! FD29: a, b = x, y by a tuple that is taken apart (some of the names are cells): what is new stays new. -/
namespace FD
open PySem L2
variable [Tabl]
theorem Got.grow {c : Ct} {da : Option Addr} {O : List Addr} {H H' : Hp} (e : Ex H H') : ∀ {P : List Addr} {rs : List RV} {vs : List V}, Got c da O H P rs vs → Got c da O H' P rs vs
  | _, _, _, .nil => .nil
  | _, _, _, .sh h r => .sh (h.mono (vis_mono e)) (Got.grow e r)
  | _, _, _, .fr h1 h2 h3 h4 r => .fr h1 h2 (e _ _ h3) (h4.mono (vis_mono e)) (Got.grow e r)
/-- names, one behind another -/
def gNms (is : List Nat) : TGs := fun vs σ H Q => vs.length = is.length ∧ Q (setAll σ is vs) H
section
variable {X : Cx} {e : Expr} {es ts : List Expr} {pos p pt pt2 : Pos} {x : Str} {i kt k2 : Nat} {is : List Nat} {fp : M (List RV)}
theorem pgn_nil : PGs X [] (gNms []) := PGs.wk pgs_nil fun vs σ H Q q => by
  obtain ⟨hl, q⟩ := q
  cases vs with
  | nil => exact ⟨rfl, q⟩
  | cons v vs => cases hl
theorem pgn_cons (hN : X.N.Nodup) (hi : X.N[i]? = some x) (hx : Loc X.env.scope x) (hr : PGs X ts (gNms is)) (hf : X.fn x = true ∨ X.env.scope.names.lookup x = some .local := by first | exact .inl rfl | exact .inr rfl | assumption)
    (hs : (assignEach (.Name x p :: ts) X.env).map (·.2) = assign (.Name x p) X.env :: (assignEach ts X.env).map (·.2) := by rfl) : PGs X (.Name x p :: ts) (gNms (i :: is)) := PGs.wk (pgs_cons (pg_name hN hi hx hf) hr hs) fun vs σ H Q q => by
  obtain ⟨hl, q⟩ := q
  cases vs with
  | nil => cases hl
  | cons v vs => exact ⟨v, vs, rfl, by simpa using hl, q⟩
theorem fs_parT (hc : X.calm = true) (hg : PGs X ts (gNms is)) (ha : FP X es fp) (hl : is.length ≤ 1000000 := by decide) (hn : (assignEach ts X.env).length = is.length := by rfl) (hst : (assignEach ts X.env).findIdx? (·.1) = none := by rfl)
    (hs : swapsWithSole [.Tuple ts kt pt] (.Tuple es k2 pt2) pos.line X.env = pure false := by rfl) (hw : swappedStores [.Tuple ts kt pt] (.Tuple es k2 pt2) X.env = pure none := by rfl) (h1 : (assignEach [.Tuple ts kt pt] X.env).map (·.2) = [assign (.Tuple ts kt pt) X.env] := by rfl) :
    FS X (.Assign [.Tuple ts kt pt] (.Tuple es k2 pt2) pos) (bindM fp fun rs => nxM (parM is rs)) := fun F => PS.wk (ps_asg (pe_tup (ha F)) (pg_tup hc hg hn hst) hs hw h1) fun E σ H q => by
  obtain ⟨O, ρ, w, fl, ρ', w', S, e, k⟩ := q
  obtain ⟨rs, ρ1, w1, e1, e2⟩ := bindM_some e
  obtain ⟨_, ρ2, w2, e3, e4⟩ := bindM_some e2
  cases e4
  refine ⟨O, ρ, w, rs, ρ1, w1, S, e1, fun vs O1 H1 S1 x1 P1 => ?_⟩
  obtain ⟨P, gt, pp⟩ := P1
  have lv : vs.length = is.length := by rw [← gt.len2, parM_len e3]
  refine ⟨small_fits (by rw [lv]; exact hl), fun q np => ?_⟩
  have x2 : Ex H1 (upd H1 q (.tup vs)) := Ex.new np
  have S3 := par_ok (S1.grow x2) ⟨P, gt.grow x2, pp⟩ e3
  exact ⟨q, vs, rfl, .inl (.inl upd_same), lv, lv, k _ O1 _ S3 (x1.trans (vis_mono x2))⟩
end
end FD

end sec_FD29
section sec_Dens
set_option maxRecDepth 100000
set_option maxHeartbeats 4000000
/-! printed by gen.py: the denotations -/
namespace KL
open PySem L2 FD
section
variable [Tabl]
def bt_str : String → Bool := fun T => T == "str"
def ic_str : List (Str × Bool) := [("Scheme", false), ("Table", false)]
def bt_list_tuple : String → Bool := fun T => T == "list" || T == "tuple"
def ic_list_tuple : List (Str × Bool) := [("Scheme", false), ("Table", false)]
def bt_tuple : String → Bool := fun T => T == "tuple"
def ic_tuple : List (Str × Bool) := [("Scheme", false), ("Table", false)]
def bt_Scheme : String → Bool := fun T => false
def ic_Scheme : List (Str × Bool) := [("Scheme", true), ("Table", false)]
def bt_bool : String → Bool := fun T => T == "bool"
def ic_bool : List (Str × Bool) := [("Scheme", false), ("Table", false)]
def bt_int : String → Bool := fun T => T == "int" || T == "bool"
def ic_int : List (Str × Bool) := [("Scheme", false), ("Table", false)]
def bt_Table : String → Bool := fun T => false
def ic_Table : List (Str × Bool) := [("Scheme", false), ("Table", true)]
def icq_Scheme : List (Str × Bool) := [("Scheme", true), ("Table", true)]
def icq_Table : List (Str × Bool) := [("Scheme", true), ("Table", true)]
def d1_law_begun : M Fl := (setM' 1 (lcM (bindM (varM 0) iterM) [2] (gNameM 2) (boolM (op2M geD (bM absD (consA (varM 2) (pureM []))) (op2M (intD powI) (pureM (.sh (.int 10))) (pureM (.sh (.int 18)))))) (op2M subD (bM absD (consA (varM 2) (pureM []))) (op2M (intD powI) (pureM (.sh (.int 10))) (pureM (.sh (.int 18)))))))
def d2_law_begun : M RV := (lcM (bindM (varM 0) iterM) [2] (gNameM 2) (pureM true) (op2M (intD modI) (bM intFD (consA (bM absD (consA (varM 2) (pureM []))) (pureM []))) (pureM (.sh (.int 2147483629)))))
def beg : List Int → Option (List Int × List Int) := begD 3 d1_law_begun d2_law_begun 1
def d_Scheme_dependences : M Fl := (retM (op1M (fldD "Scheme" "own_dependences") (varM 0)))
abbrev D_Scheme_dependences : List D → W → Option (RV × W) := denB 1 d_Scheme_dependences
def d_Table_columns : M Fl := (retM (op1M (fldD "Table" "own_columns") (varM 0)))
abbrev D_Table_columns : List D → W → Option (RV × W) := denB 1 d_Table_columns
def d_Table_rows : M Fl := (retM (op1M (fldD "Table" "own_rows") (varM 0)))
abbrev D_Table_rows : List D → W → Option (RV × W) := denB 1 d_Table_rows
def d_name_at : M Fl := (seqM (setM' 3 (lcM (zipM (consA (op2M ixD (op2M ixD (propM "Table" D_Table_rows (varM 0)) (varM 2)) (pureM (.sh (.int 0)))) (consA (propM "Table" D_Table_columns (varM 0)) (pureM [])))) [4, 5] (gTupM (gConsM (gNameM 4) (gConsM (gNameM 5) gNilM))) (boolM (op2M (inS false) (varM 5) (varM 1))) (varM 4)))
  (retM (bM tupD (consA (ifM (boolM (op2M (inS false) (pureM (.sh (.str "r"))) (varM 1))) (op2M addD (varM 3) (lstM (consA (varM 2) (pureM [])))) (varM 3)) (pureM [])))))
abbrev D_name_at : List D → W → Option (RV × W) := denB 6 d_name_at
def d_rises : M Fl := (retM (bM allD (consA (lcM (bindM (consA (op2M subD (bM lenD (consA (varM 0) (pureM []))) (pureM (.sh (.int 1)))) (pureM [])) rangeM) [1] (gNameM 1) (pureM true) (op2M ltD (op2M ixD (varM 0) (varM 1)) (op2M ixD (varM 0) (op2M addD (varM 1) (pureM (.sh (.int 1))))))) (pureM []))))
abbrev D_rises : List D → W → Option (RV × W) := denB 2 d_rises
def d_is_set : M Fl := (retM (andM (isiM bt_str ic_str (varM 1)) (andM (callM D_rises [] (consA (varM 1) (pureM []))) (bM allD (consA (lcM (bindM (varM 1) iterM) [2] (gNameM 2) (pureM true) (op2M (inS false) (varM 2) (op2M addD (varM 0) (pureM (.sh (.str "r")))))) (pureM []))))))
abbrev D_is_set : List D → W → Option (RV × W) := denB 3 d_is_set
def d_need_set : M Fl := (ifM (notT (boolM (callM D_is_set [] (consA (varM 0) (consA (varM 1) (pureM [])))))) failM (pureM .nx))
abbrev D_need_set : List D → W → Option (RV × W) := denB 2 d_need_set
def d_Table_groups : M Fl := (seqM (exprM (callM D_need_set [] (consA (op1M (fldD "Table" "own_columns") (varM 0)) (consA (varM 1) (pureM [])))))
  (seqM (setM' 2 (pureM (.fr (.dit []))))
  (seqM (forM (bindM (consA (bM lenD (consA (op1M (fldD "Table" "own_rows") (varM 0)) (pureM []))) (pureM [])) rangeM) (gNameM 3)
   (seqM (setM' 4 (callM D_name_at [] (consA (varM 0) (consA (varM 1) (consA (varM 3) (pureM []))))))
  (dputM 2 (op2M addD (dgetM (dictM (varM 2)) (varM 4) (lstM (pureM []))) (lstM (consA (varM 3) (pureM [])))) (varM 4))))
  (retM (valsM (varM 2))))))
abbrev D_Table_groups : List D → W → Option (RV × W) := denB 5 d_Table_groups
def d_Table_keeps : M Fl := (seqM (forM (bindM (methM "Table" "groups" D_Table_groups [] (varM 0) (consA (varM 1) (pureM []))) iterM) (gNameM 3)
   (ifM (boolM (op2M gtD (bM lenTD (consA (dcM (bindM (varM 3) iterM) [4] (gNameM 4) (pureM true) (callM D_name_at [] (consA (varM 0) (consA (varM 2) (consA (varM 4) (pureM []))))) (pureM (.sh (.bl true)))) (pureM []))) (pureM (.sh (.int 1))))) (retM (pureM (.sh (.bl false)))) (pureM .nx)))
  (retM (pureM (.sh (.bl true)))))
abbrev D_Table_keeps : List D → W → Option (RV × W) := denB 5 d_Table_keeps
def d_Scheme_columns : M Fl := (retM (op1M (fldD "Scheme" "own_columns") (varM 0)))
abbrev D_Scheme_columns : List D → W → Option (RV × W) := denB 1 d_Scheme_columns
def d_Table_broken : M Fl := (seqM (ifM (boolM (op2M neD (op1M (fldD "Table" "own_columns") (varM 0)) (propM "Scheme" D_Scheme_columns (varM 1)))) failM (pureM .nx))
  (seqM (forM (enumM (propM "Scheme" D_Scheme_dependences (varM 1))) (gTupM (gConsM (gNameM 2) (gConsM (gTupM (gConsM (gNameM 3) (gConsM (gNameM 4) gNilM))) gNilM)))
   (ifM (notT (boolM (methM "Table" "keeps" D_Table_keeps [] (varM 0) (consA (varM 3) (consA (varM 4) (pureM [])))))) (retM (varM 2)) (pureM .nx)))
  (retM (pureM (.sh .non)))))
abbrev D_Table_broken : List D → W → Option (RV × W) := denB 5 d_Table_broken
def d_law_is_within : M Fl := (retM (op2M eqD (lcM (bindM (varM 0) iterM) [2] (gNameM 2) (boolM (op2M (inS true) (varM 2) (varM 1))) (varM 2)) (lstM (pureM []))))
abbrev D_law_is_within : List D → W → Option (RV × W) := denB 3 d_law_is_within
def d_within : M Fl := (retM (bM allD (consA (lcM (bindM (varM 0) iterM) [2] (gNameM 2) (pureM true) (op2M (inS false) (varM 2) (varM 1))) (pureM []))))
abbrev D_within : List D → W → Option (RV × W) := denB 3 d_within
def d_joined : M Fl := (retM (strM joinD (pureM (.sh (.str ""))) (ssetM (op2M addD (varM 0) (varM 1)))))
abbrev D_joined : List D → W → Option (RV × W) := denB 2 d_joined
def d_closure_of : M Fl := (seqM (parSt [3, 4] (pend1 (varM 2) (pend1 (pureM (.sh .non)) (pureM []))))
  (seqM (whileM (boolM (op2M neD (varM 3) (varM 4))) (seqM (setM' 4 (varM 3))
  (seqM (ifM (boolM (op2M (inS false) (pureM (.sh (.str "r"))) (varM 3))) (setM' 3 (callM D_joined [] (consA (varM 3) (consA (varM 0) (pureM []))))) (pureM .nx))
  (forM (bindM (varM 1) iterM) (gTupM (gConsM (gNameM 5) (gConsM (gNameM 6) gNilM)))
   (ifM (boolM (callM D_within [] (consA (varM 5) (consA (varM 3) (pureM []))))) (setM' 3 (callM D_joined [] (consA (varM 3) (consA (varM 6) (pureM []))))) (pureM .nx))))) 1000000)
  (retM (varM 3))))
abbrev D_closure_of : List D → W → Option (RV × W) := denB 7 d_closure_of
def d_Scheme_closure : M Fl := (seqM (exprM (callM D_need_set [] (consA (op1M (fldD "Scheme" "own_columns") (varM 0)) (consA (varM 1) (pureM [])))))
  (retM (callM D_closure_of [] (consA (op1M (fldD "Scheme" "own_columns") (varM 0)) (consA (op1M (fldD "Scheme" "own_dependences") (varM 0)) (consA (varM 1) (pureM [])))))))
abbrev D_Scheme_closure : List D → W → Option (RV × W) := denB 2 d_Scheme_closure
def d_law_mixed : M Fl := (seqM (parSt [1, 2] (pend1 (op2M addD (drI W.turn (varM 0)) (pureM (.sh (.int 1)))) (pend1 (pureM (.sh (.int 0))) (pureM []))))
  (seqM (drSet (fun w i => { w with turn := i }) (varM 1) (varM 0))
  (seqM (forM (bindM (lstM (consA (pureM (.sh (.int 2147483629))) (consA (pureM (.sh (.int 2147483587))) (consA (pureM (.sh (.int 2147483579))) (consA (pureM (.sh (.int 2147483563))) (pureM [])))))) iterM) (gNameM 3)
   (seqM (setM' 4 (op2M addD (op2M mulD (pureM (.sh (.int 61441))) (varM 1)) (op2M (intD fdivI) (varM 3) (pureM (.sh (.int 19))))))
  (seqM (forM (drC (varM 0)) (gNameM 5)
   (setM' 4 (op2M (intD modI) (bM intFD (consA (op2M addD (op2M addD (op2M mulD (varM 4) (pureM (.sh (.int 48271)))) (varM 5)) (varM 1)) (pureM []))) (varM 3))))
  (setM' 2 (op2M addD (op2M mulD (varM 2) (pureM (.sh (.int 2147483647)))) (op2M (intD modI) (bM intFD (consA (op2M (intD powI) (varM 4) (pureM (.sh (.int 5)))) (pureM []))) (varM 3)))))))
  (retM (varM 2)))))
abbrev D_law_mixed : List D → W → Option (RV × W) := denB 6 d_law_mixed
def d_law_take : M Fl := (seqM (ifM (boolM (op2M eqD (drI W.rest (varM 0)) (pureM (.sh (.int 0))))) (drSet (fun w i => { w with rest := i }) (ifM (drT (fun w => !w.wide.isEmpty) (varM 0)) (drPop (varM 0)) (callM D_law_mixed [] (consA (varM 0) (pureM [])))) (varM 0)) (pureM .nx))
  (seqM (setM' 2 (op2M (intD modI) (bM intFD (consA (drI W.rest (varM 0)) (pureM []))) (varM 1)))
  (seqM (drSet (fun w i => { w with rest := i }) (op2M (intD fdivI) (drI W.rest (varM 0)) (varM 1)) (varM 0))
  (retM (varM 2)))))
abbrev D_law_take : List D → W → Option (RV × W) := denB 3 d_law_take
def d_law_letters : M Fl := (retM (strM joinD (pureM (.sh (.str ""))) (lcM (bindM (varM 1) iterM) [2] (gNameM 2) (boolM (op2M eqD (callM D_law_take [] (consA (varM 0) (consA (pureM (.sh (.int 2))) (pureM [])))) (pureM (.sh (.int 0))))) (varM 2))))
abbrev D_law_letters : List D → W → Option (RV × W) := denB 3 d_law_letters
def d_law_pick : M Fl := (retM (op2M ixD (varM 1) (callM D_law_take [] (consA (varM 0) (consA (bM lenD (consA (varM 1) (pureM []))) (pureM []))))))
abbrev D_law_pick : List D → W → Option (RV × W) := denB 2 d_law_pick
def d_law_sets : M Fl := (seqM (setM' 1 (lstM (consA (pureM (.sh (.str ""))) (pureM []))))
  (seqM (forM (bindM (op2M addD (varM 0) (pureM (.sh (.str "r")))) iterM) (gNameM 2)
   (setM' 1 (op2M addD (varM 1) (lcM (bindM (varM 1) iterM) [3] (gNameM 3) (pureM true) (op2M addD (varM 3) (varM 2))))))
  (retM (sortM SK.byLen1 (bM sortedD (consA (varM 1) (pureM [])))))))
abbrev D_law_sets : List D → W → Option (RV × W) := denB 4 d_law_sets
def d_is_dependence : M Fl := (seqM (ifM (orT (notT (boolM (isiM bt_tuple ic_tuple (varM 1)))) (orT (boolM (op2M neD (bM lenD (consA (varM 1) (pureM []))) (pureM (.sh (.int 2))))) (notT (boolM (callM D_is_set [] (consA (varM 0) (consA (op2M ixD (varM 1) (pureM (.sh (.int 0)))) (pureM [])))))))) (retM (pureM (.sh (.bl false)))) (pureM .nx))
  (retM (andM (callM D_is_set [] (consA (varM 0) (consA (op2M ixD (varM 1) (pureM (.sh (.int 1)))) (pureM [])))) (op2M eqD (bM lenD (consA (op2M ixD (varM 1) (pureM (.sh (.int 1)))) (pureM []))) (pureM (.sh (.int 1)))))))
abbrev D_is_dependence : List D → W → Option (RV × W) := denB 2 d_is_dependence
def d_need_dependences : M Fl := (seqM (ifM (notT (boolM (isiM bt_list_tuple ic_list_tuple (varM 1)))) failM (pureM .nx))
  (forM (enumM (varM 1)) (gTupM (gConsM (gNameM 2) (gConsM (gNameM 3) gNilM)))
   (ifM (orT (boolM (op2M eqD (varM 2) (pureM (.sh (.int 20))))) (notT (boolM (callM D_is_dependence [] (consA (varM 0) (consA (varM 3) (pureM []))))))) failM (pureM .nx))))
abbrev D_need_dependences : List D → W → Option (RV × W) := denB 4 d_need_dependences
def d_is_columns : M Fl := (seqM (ifM (orT (notT (boolM (isiM bt_str ic_str (varM 0)))) (orT (boolM (op2M eqD (varM 0) (pureM (.sh (.str ""))))) (notT (boolM (callM D_rises [] (consA (varM 0) (pureM []))))))) (retM (pureM (.sh (.bl false)))) (pureM .nx))
  (retM (bM allD (consA (lcM (bindM (varM 0) iterM) [1] (gNameM 1) (pureM true) (op2M (inS false) (varM 1) (pureM (.sh (.str "abcd"))))) (pureM [])))))
abbrev D_is_columns : List D → W → Option (RV × W) := denB 2 d_is_columns
def d_need_columns : M Fl := (ifM (notT (boolM (callM D_is_columns [] (consA (varM 0) (pureM []))))) failM (pureM .nx))
abbrev D_need_columns : List D → W → Option (RV × W) := denB 1 d_need_columns
def d_Scheme_init : MJ := (jExpr (callM D_need_columns [] (consA (varM 1) (pureM [])))
  (jExpr (callM D_need_dependences [] (consA (varM 1) (consA (varM 2) (pureM []))))
  (jFld "own_columns" (varM 1)
  (jFld "own_dependences" (bM tupD (consA (varM 2) (pureM [])))
  (fun gs => pureM gs)))))
abbrev I_Scheme : List D → W → Option (List (Str × D) × W) := denI 3 d_Scheme_init
def d_Scheme_with_more : M Fl := (seqM (exprM (callM D_need_dependences [] (consA (op1M (fldD "Scheme" "own_columns") (varM 0)) (consA (varM 1) (pureM [])))))
  (seqM (ifM (boolM (op2M gtD (op2M addD (bM lenD (consA (op1M (fldD "Scheme" "own_dependences") (varM 0)) (pureM []))) (bM lenD (consA (varM 1) (pureM [])))) (pureM (.sh (.int 20))))) failM (pureM .nx))
  (retM (makM "Scheme" I_Scheme [] (consA (op1M (fldD "Scheme" "own_columns") (varM 0)) (consA (starM (op1M (fldD "Scheme" "own_dependences") (varM 0)) (varM 1)) (pureM [])))))))
abbrev D_Scheme_with_more : List D → W → Option (RV × W) := denB 2 d_Scheme_with_more
def d_sets_of : M Fl := (seqM (setM' 1 (lstM (consA (pureM (.sh (.str ""))) (pureM []))))
  (seqM (forM (bindM (op2M addD (varM 0) (pureM (.sh (.str "r")))) iterM) (gNameM 2)
   (setM' 1 (op2M addD (varM 1) (lcM (bindM (varM 1) iterM) [3] (gNameM 3) (pureM true) (op2M addD (varM 3) (varM 2))))))
  (retM (sortM SK.byLen (varM 1)))))
abbrev D_sets_of : List D → W → Option (RV × W) := denB 4 d_sets_of
def d_Scheme_closed_sets : M Fl := (retM (lcM (bindM (callM D_sets_of [] (consA (op1M (fldD "Scheme" "own_columns") (varM 0)) (pureM []))) iterM) [1] (gNameM 1) (boolM (op2M eqD (methM "Scheme" "closure" D_Scheme_closure [] (varM 0) (consA (varM 1) (pureM []))) (varM 1))) (varM 1)))
abbrev D_Scheme_closed_sets : List D → W → Option (RV × W) := denB 2 d_Scheme_closed_sets
def d_Scheme_eq : M Fl := (seqM (ifM (orT (notT (boolM (isiM bt_Scheme ic_Scheme (varM 1)))) (boolM (op2M neD (op1M (fldD "Scheme" "own_columns") (varM 0)) (op1M (fldD "Scheme" "own_columns") (varM 1))))) (retM (pureM (.sh (.bl false)))) (pureM .nx))
  (retM (op2M eqD (meth0M "Scheme" "closed_sets" D_Scheme_closed_sets [] (varM 0)) (meth0M "Scheme" "closed_sets" D_Scheme_closed_sets [] (varM 1)))))
abbrev D_Scheme_eq : List D → W → Option (RV × W) := denB 2 d_Scheme_eq
def d_law_common : M Fl := (retM (strM joinD (pureM (.sh (.str ""))) (lcM (bindM (varM 1) iterM) [2] (gNameM 2) (boolM (op2M eqD (lcM (bindM (varM 0) iterM) [3] (gNameM 3) (boolM (op2M (inS true) (varM 2) (varM 3))) (varM 3)) (lstM (pureM [])))) (varM 2))))
abbrev D_law_common : List D → W → Option (RV × W) := denB 4 d_law_common
def d_is_number : M Fl := (retM (andM (isiM bt_int ic_int (varM 0)) (notM (isiM bt_bool ic_bool (varM 0)))))
abbrev D_is_number : List D → W → Option (RV × W) := denB 1 d_is_number
def d_is_row : M Fl := (seqM (ifM (orT (notT (boolM (isiM bt_tuple ic_tuple (varM 1)))) (orT (boolM (op2M neD (bM lenD (consA (varM 1) (pureM []))) (pureM (.sh (.int 4))))) (notT (boolM (isiM bt_tuple ic_tuple (op2M ixD (varM 1) (pureM (.sh (.int 0))))))))) (retM (pureM (.sh (.bl false)))) (pureM .nx))
  (seqM (ifM (orT (boolM (op2M neD (bM lenD (consA (op2M ixD (varM 1) (pureM (.sh (.int 0)))) (pureM []))) (bM lenD (consA (varM 0) (pureM []))))) (notT (boolM (bM allD (consA (lcM (bindM (op2M ixD (varM 1) (pureM (.sh (.int 0)))) iterM) [2] (gNameM 2) (pureM true) (andM (callM D_is_number [] (consA (varM 2) (pureM []))) (op2M geD (varM 2) (pureM (.sh (.int 0)))))) (pureM [])))))) (retM (pureM (.sh (.bl false)))) (pureM .nx))
  (retM (andM (callM D_is_number [] (consA (op2M ixD (varM 1) (pureM (.sh (.int 1)))) (pureM []))) (bM allD (consA (lcM (bindM (slM (varM 1) (partM (pureM (.sh (.int 2)))) (pureM none)) iterM) [3] (gNameM 3) (pureM true) (andM (callM D_is_number [] (consA (varM 3) (pureM []))) (op2M geD (varM 3) (pureM (.sh (.int 1)))))) (pureM [])))))))
abbrev D_is_row : List D → W → Option (RV × W) := denB 4 d_is_row
def d_need_rows : M Fl := (seqM (ifM (notT (boolM (isiM bt_list_tuple ic_list_tuple (varM 1)))) failM (pureM .nx))
  (forM (enumM (varM 1)) (gTupM (gConsM (gNameM 2) (gConsM (gNameM 3) gNilM)))
   (ifM (notT (boolM (callM D_is_row [] (consA (varM 0) (consA (varM 3) (pureM [])))))) failM (pureM .nx))))
abbrev D_need_rows : List D → W → Option (RV × W) := denB 4 d_need_rows
def d_Table_init : MJ := (jExpr (callM D_need_columns [] (consA (varM 1) (pureM [])))
  (jExpr (callM D_need_rows [] (consA (varM 1) (consA (varM 2) (pureM []))))
  (jFld "own_columns" (varM 1)
  (jFld "own_rows" (bM tupD (consA (varM 2) (pureM [])))
  (fun gs => pureM gs)))))
abbrev I_Table : List D → W → Option (List (Str × D) × W) := denI 3 d_Table_init
def d_law_named : M Fl := (seqM (setM' 4 (op2M ixD (op2M ixD (varM 1) (varM 3)) (pureM (.sh (.int 0)))))
  (seqM (setM' 5 (lcM (bindM (varM 2) iterM) [6] (gNameM 6) (boolM (op2M neD (varM 6) (pureM (.sh (.str "r"))))) (op2M ixD (varM 4) (strM indexD (op2M ixD (varM 0) (pureM (.sh (.int 0)))) (varM 6)))))
  (retM (bM tupD (consA (op2M addD (varM 5) (op2M repD (lstM (consA (varM 3) (pureM []))) (bM intFD (consA (op2M (inS false) (pureM (.sh (.str "r"))) (varM 2)) (pureM []))))) (pureM []))))))
abbrev D_law_named : List D → W → Option (RV × W) := denB 7 d_law_named
def d_law_broken : M Fl := (seqM (forM (enumM (op2M ixD (varM 0) (pureM (.sh (.int 1))))) (gTupM (gConsM (gNameM 2) (gConsM (gNameM 3) gNilM)))
   (seqM (setM' 4 (pureM (.fr (.dit []))))
  (forM (bindM (consA (bM lenD (consA (varM 1) (pureM []))) (pureM [])) rangeM) (gNameM 5)
   (seqM (parSt [6, 7] (pend1 (callM D_law_named [] (consA (varM 0) (consA (varM 1) (consA (op2M ixD (varM 3) (pureM (.sh (.int 0)))) (consA (varM 5) (pureM [])))))) (pend1 (callM D_law_named [] (consA (varM 0) (consA (varM 1) (consA (op2M ixD (varM 3) (pureM (.sh (.int 1)))) (consA (varM 5) (pureM [])))))) (pureM []))))
  (seqM (ifM (boolM (op2M neD (dgetM (dictM (varM 4)) (varM 6) (varM 7)) (varM 7))) (retM (varM 2)) (pureM .nx))
  (dputM 4 (varM 7) (varM 6)))))))
  (retM (pureM (.sh .non))))
abbrev D_law_broken : List D → W → Option (RV × W) := denB 8 d_law_broken
def d_law_row : M Fl := (seqM (setM' 3 (ifM (boolM (op2M eqD (varM 2) (pureM (.sh (.str "any"))))) (callM D_law_pick [] (consA (varM 0) (consA (lstM (consA (pureM (.sh (.int 9))) (consA (pureM (.sh (.int 9))) (consA (pureM (.sh (.int 40))) (consA (op2M (intD powI) (pureM (.sh (.int 10))) (pureM (.sh (.int 6)))) (pureM [])))))) (pureM [])))) (pureM (.sh (.int 9)))))
  (seqM (setM' 4 (op2M subD (callM D_law_take [] (consA (varM 0) (consA (op2M addD (op2M mulD (pureM (.sh (.int 2))) (varM 3)) (pureM (.sh (.int 1)))) (pureM [])))) (varM 3)))
  (retM (tupM (consA (varM 1) (consA (varM 4) (consA (op2M addD (pureM (.sh (.int 1))) (callM D_law_take [] (consA (varM 0) (consA (varM 3) (pureM []))))) (consA (op2M addD (pureM (.sh (.int 1))) (callM D_law_take [] (consA (varM 0) (consA (varM 3) (pureM []))))) (pureM [])))))))))
abbrev D_law_row : List D → W → Option (RV × W) := denB 5 d_law_row
def d_law_fitted : M Fl := (seqM (setM' 3 (bM listD (consA (varM 2) (pureM []))))
  (seqM (forM (bindM (consA (pureM (.sh (.int 4))) (pureM [])) rangeM) (gNameM 4)
   (forM (bindM (lcM (bindM (op2M ixD (varM 0) (pureM (.sh (.int 1)))) iterM) [8] (gNameM 8) (boolM (op2M (inS true) (pureM (.sh (.str "r"))) (op2M addD (op2M ixD (varM 8) (pureM (.sh (.int 0)))) (op2M ixD (varM 8) (pureM (.sh (.int 1))))))) (varM 8)) iterM) (gTupM (gConsM (gNameM 5) (gConsM (gNameM 6) gNilM)))
   (seqM (parSt [9, 10] (pend1 (lcM (bindM (varM 5) iterM) [11] (gNameM 11) (pureM true) (strM indexD (op2M ixD (varM 0) (pureM (.sh (.int 0)))) (varM 11))) (pend1 (strM indexD (op2M ixD (varM 0) (pureM (.sh (.int 0)))) (varM 6)) (pureM []))))
  (forM (bindM (varM 1) iterM) (gNameM 7)
   (ifM (boolM (op2M eqD (lcM (bindM (varM 9) iterM) [12] (gNameM 12) (boolM (op2M neD (op2M ixD (op2M ixD (varM 7) (pureM (.sh (.int 0)))) (varM 12)) (op2M ixD (varM 3) (varM 12)))) (varM 12)) (lstM (pureM [])))) (lputM 3 (op2M ixD (op2M ixD (varM 7) (pureM (.sh (.int 0)))) (varM 10)) (varM 10)) (pureM .nx))))))
  (retM (bM tupD (consA (varM 3) (pureM []))))))
abbrev D_law_fitted : List D → W → Option (RV × W) := denB 13 d_law_fitted
def d_law_rows : M Fl := (seqM (asgSt (tupM (consA (lstM (pureM [])) (consA (callM D_law_pick [] (consA (varM 0) (consA (lstM (consA (pureM (.sh (.int 2))) (consA (pureM (.sh (.int 2))) (consA (pureM (.sh (.int 3))) (consA (pureM (.sh (.int 5))) (pureM [])))))) (pureM [])))) (pureM [])))) (gTupM (gConsM (gNameM 4) (gConsM (gNameM 5) gNilM))))
  (seqM (forM (bindM (consA (callM D_law_take [] (consA (varM 0) (consA (op2M addD (varM 2) (pureM (.sh (.int 1)))) (pureM [])))) (pureM [])) rangeM) (gNameM 6)
   (seqM (setM' 7 (lcM (bindM (op2M ixD (varM 1) (pureM (.sh (.int 0)))) iterM) [9] (gNameM 9) (pureM true) (callM D_law_take [] (consA (varM 0) (consA (varM 5) (pureM []))))))
  (seqM (ifM (andT (boolM (op2M neD (varM 4) (lstM (pureM [])))) (boolM (op2M eqD (callM D_law_take [] (consA (varM 0) (consA (pureM (.sh (.int 3))) (pureM [])))) (pureM (.sh (.int 0)))))) (setM' 7 (bM listD (consA (op2M ixD (callM D_law_pick [] (consA (varM 0) (consA (varM 4) (pureM [])))) (pureM (.sh (.int 0)))) (pureM [])))) (pureM .nx))
  (seqM (ifM (andT (boolM (op2M eqD (varM 3) (pureM (.sh (.str "any"))))) (boolM (op2M eqD (callM D_law_take [] (consA (varM 0) (consA (pureM (.sh (.int 12))) (pureM [])))) (pureM (.sh (.int 0)))))) (lputM 7 (callM D_law_pick [] (consA (varM 0) (consA (lstM (consA (op2M (intD powI) (pureM (.sh (.int 10))) (pureM (.sh (.int 6)))) (consA (op2M subD (op2M (intD powI) (pureM (.sh (.int 10))) (pureM (.sh (.int 6)))) (pureM (.sh (.int 1)))) (consA (pureM (.sh (.int 12))) (pureM []))))) (pureM [])))) (callM D_law_take [] (consA (varM 0) (consA (bM lenD (consA (varM 7) (pureM []))) (pureM []))))) (pureM .nx))
  (seqM (setM' 8 (op2M addD (varM 4) (lstM (consA (callM D_law_row [] (consA (varM 0) (consA (callM D_law_fitted [] (consA (varM 1) (consA (varM 4) (consA (varM 7) (pureM []))))) (consA (varM 3) (pureM []))))) (pureM [])))))
  (ifM (boolM (op1M (isNonD false) (callM D_law_broken [] (consA (varM 1) (consA (varM 8) (pureM [])))))) (setM' 4 (varM 8)) (pureM .nx)))))))
  (retM (varM 4))))
abbrev D_law_rows : List D → W → Option (RV × W) := denB 10 d_law_rows
def d_law_columns : M Fl := (seqM (parSt [2, 3] (pend1 (bM listD (consA (pureM (.sh (.str "abcd"))) (pureM []))) (pend1 (op2M addD (pureM (.sh (.int 1))) (callM D_law_take [] (consA (varM 0) (consA (varM 1) (pureM []))))) (pureM []))))
  (seqM (whileM (boolM (op2M gtD (bM lenD (consA (varM 2) (pureM []))) (varM 3))) (exprM (popM 2 (callM D_law_take [] (consA (varM 0) (consA (bM lenD (consA (varM 2) (pureM []))) (pureM [])))))) 1000000)
  (retM (strM joinD (pureM (.sh (.str ""))) (varM 2)))))
abbrev D_law_columns : List D → W → Option (RV × W) := denB 4 d_law_columns
def d_law_drawn : M Fl := (seqM (parSt [3, 4] (pend1 (callM D_law_columns [] (consA (varM 0) (consA (varM 1) (pureM [])))) (pend1 (lstM (pureM [])) (pureM []))))
  (seqM (forM (bindM (consA (callM D_law_pick [] (consA (varM 0) (consA (lstM (consA (pureM (.sh (.int 0))) (consA (pureM (.sh (.int 0))) (consA (pureM (.sh (.int 1))) (consA (pureM (.sh (.int 2))) (consA (callM D_law_take [] (consA (varM 0) (consA (op2M addD (varM 2) (pureM (.sh (.int 1)))) (pureM [])))) (pureM []))))))) (pureM [])))) (pureM [])) rangeM) (gNameM 5)
   (seqM (setM' 6 (callM D_law_letters [] (consA (varM 0) (consA (op2M addD (varM 3) (pureM (.sh (.str "r")))) (pureM [])))))
  (seqM (ifM (andT (boolM (op2M eqD (varM 6) (pureM (.sh (.str ""))))) (boolM (op2M gtD (callM D_law_take [] (consA (varM 0) (consA (pureM (.sh (.int 4))) (pureM [])))) (pureM (.sh (.int 0)))))) (setM' 6 (callM D_law_pick [] (consA (varM 0) (consA (bM listD (consA (varM 3) (pureM []))) (pureM []))))) (pureM .nx))
  (exprM (appM 4 (tupM (consA (varM 6) (consA (callM D_law_pick [] (consA (varM 0) (consA (bM listD (consA (op2M addD (varM 3) (pureM (.sh (.str "r")))) (pureM []))) (pureM [])))) (pureM [])))))))))
  (retM (tupM (consA (varM 3) (consA (bM tupD (consA (slM (varM 4) (pureM none) (partM (varM 2))) (pureM []))) (pureM [])))))))
abbrev D_law_drawn : List D → W → Option (RV × W) := denB 7 d_law_drawn
def d_law : M Fl := (seqM (forM (bindM (consA (op2M addD (pureM (.sh (.int 2))) (bM minD (consA (bM lenD (consA (varM 0) (pureM []))) (consA (pureM (.sh (.int 8))) (pureM []))))) (pureM [])) rangeM) (gNameM 2)
   (seqM (setM' 3 (callM D_law_drawn [] (consA (varM 1) (consA (pureM (.sh (.int 4))) (consA (pureM (.sh (.int 4))) (pureM []))))))
  (seqM (parSt [7, 8] (pend1 (makM "Scheme" I_Scheme [] (consA (op2M ixD (varM 3) (pureM (.sh (.int 0)))) (consA (op2M ixD (varM 3) (pureM (.sh (.int 1)))) (pureM [])))) (pend1 (meth0M "Scheme" "closed_sets" D_Scheme_closed_sets [] (makM "Scheme" I_Scheme [] (consA (op2M ixD (varM 3) (pureM (.sh (.int 0)))) (consA (op2M ixD (varM 3) (pureM (.sh (.int 1)))) (pureM []))))) (pureM []))))
  (seqM (setM' 4 (makM "Table" I_Table [] (consA (op2M ixD (varM 3) (pureM (.sh (.int 0)))) (consA (callM D_law_rows [] (consA (varM 1) (consA (varM 3) (consA (pureM (.sh (.int 12))) (consA (pureM (.sh (.str "small"))) (pureM [])))))) (pureM [])))))
  (seqM (forM (bindM (callM D_law_sets [] (consA (op2M ixD (varM 3) (pureM (.sh (.int 0)))) (pureM []))) iterM) (gNameM 5)
   (seqM (setM' 9 (lcM (bindM (varM 8) iterM) [15] (gNameM 15) (boolM (callM D_law_is_within [] (consA (varM 5) (consA (varM 15) (pureM []))))) (varM 15)))
  (seqM (setM' 10 (methM "Scheme" "closure" D_Scheme_closure [] (varM 7) (consA (varM 5) (pureM []))))
  (seqM (ifM (orT (boolM (op2M neD (varM 10) (callM D_law_common [] (consA (varM 9) (consA (op2M addD (op2M ixD (varM 3) (pureM (.sh (.int 0)))) (pureM (.sh (.str "r")))) (pureM [])))))) (boolM (op2M neD (methM "Scheme" "closure" D_Scheme_closure [] (varM 7) (consA (varM 10) (pureM []))) (varM 10)))) (retM (pureM (.sh (.bl false)))) (pureM .nx))
  (seqM (ifM (boolM (op2M neD (methM "Table" "groups" D_Table_groups [] (varM 4) (consA (varM 5) (pureM []))) (methM "Table" "groups" D_Table_groups [] (varM 4) (consA (varM 10) (pureM []))))) (retM (pureM (.sh (.bl false)))) (pureM .nx))
  (seqM (setM' 11 (callM D_law_pick [] (consA (varM 1) (consA (bM listD (consA (orVM (varM 10) (pureM (.sh (.str "r")))) (pureM []))) (pureM [])))))
  (ifM (andT (boolM (op2M neD (varM 10) (pureM (.sh (.str ""))))) (notT (boolM (eqOM "Scheme" icq_Scheme D_Scheme_eq false (varM 7) (methM "Scheme" "with_more" D_Scheme_with_more [] (varM 7) (consA (lstM (consA (tupM (consA (varM 5) (consA (varM 11) (pureM [])))) (pureM []))) (pureM []))))))) (retM (pureM (.sh (.bl false)))) (pureM .nx))))))))
  (seqM (forM (bindM (consA (pureM (.sh (.int 6))) (pureM [])) rangeM) (gNameM 6)
   (seqM (asgSt (tupM (consA (callM D_law_pick [] (consA (varM 1) (consA (varM 8) (pureM [])))) (consA (callM D_law_pick [] (consA (varM 1) (consA (varM 8) (pureM [])))) (pureM [])))) (gTupM (gConsM (gNameM 5) (gConsM (gNameM 14) gNilM))))
  (seqM (ifM (boolM (op2M (inL true) (strM joinD (pureM (.sh (.str ""))) (lcM (bindM (varM 5) iterM) [11] (gNameM 11) (boolM (op2M (inS false) (varM 11) (varM 14))) (varM 11))) (varM 8))) (retM (pureM (.sh (.bl false)))) (pureM .nx))
  (seqM (setM' 12 (callM D_law_letters [] (consA (varM 1) (consA (op2M addD (op2M ixD (varM 3) (pureM (.sh (.int 0)))) (pureM (.sh (.str "r")))) (pureM [])))))
  (seqM (setM' 13 (strM joinD (pureM (.sh (.str ""))) (ssetM (op2M addD (varM 12) (callM D_law_letters [] (consA (varM 1) (consA (op2M addD (op2M ixD (varM 3) (pureM (.sh (.int 0)))) (pureM (.sh (.str "r")))) (pureM []))))))))
  (ifM (notT (boolM (callM D_law_is_within [] (consA (methM "Scheme" "closure" D_Scheme_closure [] (varM 7) (consA (varM 12) (pureM []))) (consA (methM "Scheme" "closure" D_Scheme_closure [] (varM 7) (consA (varM 13) (pureM []))) (pureM [])))))) (retM (pureM (.sh (.bl false)))) (pureM .nx)))))))
  (ifM (boolM (op1M (isNonD true) (methM "Table" "broken" D_Table_broken [] (varM 4) (consA (varM 7) (pureM []))))) (retM (pureM (.sh (.bl false)))) (pureM .nx))))))))
  (retM (pureM (.sh (.bl true)))))
def law : List Int → Bool := denL 16 beg d_law
/-! defs that the law does not reach -/
def d_BadColumns_init : MJ := (jFld "given" (varM 1)
  (fun gs => pureM gs))
abbrev I_BadColumns : List D → W → Option (List (Str × D) × W) := denI 2 d_BadColumns_init
def d_BadSet_init : MJ := (jFld "letters" (varM 1)
  (fun gs => pureM gs))
abbrev I_BadSet : List D → W → Option (List (Str × D) × W) := denI 2 d_BadSet_init
def d_BadDependence_init : MJ := (jFld "at" (varM 1)
  (fun gs => pureM gs))
abbrev I_BadDependence : List D → W → Option (List (Str × D) × W) := denI 2 d_BadDependence_init
def d_BadRow_init : MJ := (jFld "at" (varM 1)
  (fun gs => pureM gs))
abbrev I_BadRow : List D → W → Option (List (Str × D) × W) := denI 2 d_BadRow_init
def d_NoPlace_init : MJ := (jFld "place" (varM 1)
  (fun gs => pureM gs))
abbrev I_NoPlace : List D → W → Option (List (Str × D) × W) := denI 2 d_NoPlace_init
def d_TooMany_init : MJ := (jFld "limit" (varM 1)
  (fun gs => pureM gs))
abbrev I_TooMany : List D → W → Option (List (Str × D) × W) := denI 2 d_TooMany_init
def d_row_product : M Fl := (seqM (setM' 3 (lcM (zipM (consA (op2M ixD (varM 0) (pureM (.sh (.int 0)))) (consA (op2M ixD (varM 1) (pureM (.sh (.int 0)))) (consA (varM 2) (pureM []))))) [4, 5, 6] (gTupM (gConsM (gNameM 4) (gConsM (gNameM 5) (gConsM (gNameM 6) gNilM)))) (pureM true) (op2M addD (op2M mulD (varM 4) (op2M addD (varM 6) (pureM (.sh (.int 1))))) (varM 5))))
  (retM (tupM (consA (bM tupD (consA (varM 3) (pureM []))) (consA (op2M mulD (op2M ixD (varM 0) (pureM (.sh (.int 1)))) (op2M ixD (varM 1) (pureM (.sh (.int 1))))) (consA (op2M mulD (op2M ixD (varM 0) (pureM (.sh (.int 2)))) (op2M ixD (varM 1) (pureM (.sh (.int 2))))) (consA (op2M mulD (op2M ixD (varM 0) (pureM (.sh (.int 3)))) (op2M ixD (varM 1) (pureM (.sh (.int 3))))) (pureM []))))))))
abbrev D_row_product : List D → W → Option (RV × W) := denB 7 d_row_product
def d_Table_len : M Fl := (retM (bM lenD (consA (op1M (fldD "Table" "own_rows") (varM 0)) (pureM []))))
abbrev D_Table_len : List D → W → Option (RV × W) := denB 1 d_Table_len
def d_need_place : M Fl := (ifM (orT (notT (boolM (callM D_is_number [] (consA (varM 1) (pureM []))))) (notT (boolM (chM leD ltD (pureM (.sh (.int 0))) (varM 1) (lenOM "Table" D_Table_len (varM 0)))))) failM (pureM .nx))
abbrev D_need_place : List D → W → Option (RV × W) := denB 2 d_need_place
def d_Table_eq : M Fl := (retM (andM (isiM bt_Table ic_Table (varM 1)) (op2M eqD (tupM (consA (op1M (fldD "Table" "own_columns") (varM 0)) (consA (op1M (fldD "Table" "own_rows") (varM 0)) (pureM [])))) (tupM (consA (op1M (fldD "Table" "own_columns") (varM 1)) (consA (op1M (fldD "Table" "own_rows") (varM 1)) (pureM [])))))))
abbrev D_Table_eq : List D → W → Option (RV × W) := denB 2 d_Table_eq
def d_Table_iter : M Fl := failM
abbrev D_Table_iter : List D → W → Option (RV × W) := denB 1 d_Table_iter
def d_Table_getitem : M Fl := (seqM (exprM (callM D_need_place [] (consA (varM 0) (consA (varM 1) (pureM [])))))
  (retM (op2M ixD (op1M (fldD "Table" "own_rows") (varM 0)) (varM 1))))
abbrev D_Table_getitem : List D → W → Option (RV × W) := denB 2 d_Table_getitem
def d_Table_mul : M Fl := (seqM (ifM (boolM (op2M neD (op1M (fldD "Table" "own_columns") (varM 0)) (op1M (fldD "Table" "own_columns") (varM 1)))) failM (pureM .nx))
  (seqM (setM' 2 (lcM (bindM (consA (bM lenD (consA (op1M (fldD "Table" "own_columns") (varM 0)) (pureM []))) (pureM [])) rangeM) [3] (gNameM 3) (pureM true) (bM maxD (consA (op2M addD (lstM (consA (pureM (.sh (.int 0))) (pureM []))) (lcM (bindM (op1M (fldD "Table" "own_rows") (varM 1)) iterM) [4] (gNameM 4) (pureM true) (op2M ixD (op2M ixD (varM 4) (pureM (.sh (.int 0)))) (varM 3)))) (pureM [])))))
  (seqM (setM' 5 (lc2M (bindM (op1M (fldD "Table" "own_rows") (varM 0)) iterM) [6, 7] (lc2Turn (gNameM 6) (pureM true) (bindM (op1M (fldD "Table" "own_rows") (varM 1)) iterM) [7] (gNameM 7) (pureM true) (callM D_row_product [] (consA (varM 6) (consA (varM 7) (consA (varM 2) (pureM []))))))))
  (retM (makM "Table" I_Table [] (consA (op1M (fldD "Table" "own_columns") (varM 0)) (consA (varM 5) (pureM []))))))))
abbrev D_Table_mul : List D → W → Option (RV × W) := denB 8 d_Table_mul
end
end KL

end sec_Dens
section sec_Ders
set_option maxRecDepth 100000
set_option maxHeartbeats 4000000
/-! printed by gen.py: the defs that the law reaches, their denotations and derivations -/
namespace KL
open PySem L2 FD
open PyProof.Rows (envOfC)
def top (i : Nat) : Stmt := PySem.Challenge.pw_meanways_k07_whole_closures_and_tables.main.body.getD i (.Pass ⟨0, 0, 0, 0⟩)
abbrev s_law_begun : Stmt := top 34
abbrev s_Scheme_dependences : Stmt := inClass (top 23) 2
abbrev s_Table_columns : Stmt := inClass (top 32) 1
abbrev s_Table_rows : Stmt := inClass (top 32) 2
abbrev s_name_at : Stmt := top 30
abbrev s_rises : Stmt := top 12
abbrev s_is_set : Stmt := top 15
abbrev s_need_set : Stmt := top 16
abbrev s_Table_groups : Stmt := inClass (top 32) 8
abbrev s_Table_keeps : Stmt := inClass (top 32) 9
abbrev s_Scheme_columns : Stmt := inClass (top 23) 1
abbrev s_Table_broken : Stmt := inClass (top 32) 10
abbrev s_law_is_within : Stmt := top 41
abbrev s_within : Stmt := top 20
abbrev s_joined : Stmt := top 19
abbrev s_closure_of : Stmt := top 21
abbrev s_Scheme_closure : Stmt := inClass (top 23) 3
abbrev s_law_mixed : Stmt := top 35
abbrev s_law_take : Stmt := top 36
abbrev s_law_letters : Stmt := top 39
abbrev s_law_pick : Stmt := top 37
abbrev s_law_sets : Stmt := top 42
abbrev s_is_dependence : Stmt := top 17
abbrev s_need_dependences : Stmt := top 18
abbrev s_is_columns : Stmt := top 13
abbrev s_need_columns : Stmt := top 14
abbrev s_Scheme_init : Stmt := inClass (top 23) 0
abbrev s_Scheme_with_more : Stmt := inClass (top 23) 5
abbrev s_sets_of : Stmt := top 22
abbrev s_Scheme_closed_sets : Stmt := inClass (top 23) 4
abbrev s_Scheme_eq : Stmt := inClass (top 23) 6
abbrev s_law_common : Stmt := top 48
abbrev s_is_number : Stmt := top 25
abbrev s_is_row : Stmt := top 27
abbrev s_need_rows : Stmt := top 28
abbrev s_Table_init : Stmt := inClass (top 32) 0
abbrev s_law_named : Stmt := top 43
abbrev s_law_broken : Stmt := top 44
abbrev s_law_row : Stmt := top 46
abbrev s_law_fitted : Stmt := top 45
abbrev s_law_rows : Stmt := top 47
abbrev s_law_columns : Stmt := top 38
abbrev s_law_drawn : Stmt := top 40
abbrev s_law : Stmt := top 49
structure Gt (K : PySem.W.Frag) (mg : Str → Option Value) : Prop where
  n_abs : mg "abs" = none
  n_all : mg "all" = none
  n_bool : mg "bool" = none
  n_enumerate : mg "enumerate" = none
  n_int : mg "int" = none
  n_isinstance : mg "isinstance" = none
  n_len : mg "len" = none
  n_list : mg "list" = none
  n_min : mg "min" = none
  n_range : mg "range" = none
  n_set : mg "set" = none
  n_sorted : mg "sorted" = none
  n_str : mg "str" = none
  n_tuple : mg "tuple" = none
  n_zip : mg "zip" = none
  g_ALL_COLUMNS : GlbD K mg "ALL_COLUMNS" (.str "abcd")
  g_MOST_DEPENDENCES : GlbD K mg "MOST_DEPENDENCES" (.int 20)
  g_ROW : GlbD K mg "ROW" (.str "r")
  f_Scheme_own_columns : FldD K mg "Scheme" "own_columns"
  f_Scheme_own_dependences : FldD K mg "Scheme" "own_dependences"
  f_Table_own_columns : FldD K mg "Table" "own_columns"
  f_Table_own_rows : FldD K mg "Table" "own_rows"
  i_str : KndD K mg (fun t b => PySem.W.kitOne K t (.type "str") = some b) bt_str ic_str
  i_list_tuple : KndD K mg (fun t b => PySem.W.kitAny K t [.type "list", .type "tuple"] = some b) bt_list_tuple ic_list_tuple
  i_tuple : KndD K mg (fun t b => PySem.W.kitOne K t (.type "tuple") = some b) bt_tuple ic_tuple
  i_Scheme : IsiC K mg "Scheme" bt_Scheme ic_Scheme
  i_bool : KndD K mg (fun t b => PySem.W.kitOne K t (.type "bool") = some b) bt_bool ic_bool
  i_int : KndD K mg (fun t b => PySem.W.kitOne K t (.type "int") = some b) bt_int ic_int
section
variable [Tabl] {P : Program} {w : World} {K : PySem.W.Frag} {mg : Str → Option Value} {base : Heap}
/-! _law_begun -/
theorem sc_law_begun : FnScope ["_law_script", "_law_wide", "_law_cell"] ["_law_script"] (defScope s_law_begun) := C8.fnScope_by (by decide +kernel)
theorem ok_law_begun {f : Addr} {fd : FuncData} (G : Gt K mg) (F : Fun K "_law_begun" "_law_begun" s_law_begun f fd) : FnOk P w K mg base CX0 2 f fd ["_law_script"] (spB ⟨K, mg⟩ beg) :=
  have sc := sc_law_begun
  begun_ok (k := 1) (i := 1) F sc rfl rfl (fun cdv A outer s H E hr => (fs_setLc rfl sc.nd (i := 1) rfl rfl rfl (own := [("_law_cell", 2)]) (fi_val (fe_var (i := 0) rfl (by first | exact Or.inl rfl | exact Or.inr (Or.inl rfl) | exact Or.inr (Or.inr rfl)))) (blkOk_by (by show blkC ["_law_script", "_law_wide", "_law_cell"] (defScope s_law_begun) _ [("_law_cell", 2)] = true; decide +kernel)) (fun _ _ _ _ _ => (fg_name (i := 2) sc.nd rfl (by first | exact Or.inl rfl | exact Or.inr rfl))) (fun _ _ _ _ _ => (fts_one (FC.ft (fc_data opD_ge (fe_b bD_abs rfl G.n_abs bo_abs (fa_cons (fe_var (i := 2) rfl (by first | exact Or.inl rfl | exact Or.inr (Or.inl rfl) | exact Or.inr (Or.inr rfl))) fa_nil)) (fe_op opD_pow fe_int fe_int) rfl)))) (fun _ _ _ _ _ => (fe_op opD_sub (fe_b bD_abs rfl G.n_abs bo_abs (fa_cons (fe_var (i := 2) rfl (by first | exact Or.inl rfl | exact Or.inr (Or.inl rfl) | exact Or.inr (Or.inr rfl))) fa_nil)) (fe_op opD_pow fe_int fe_int))))) (fun cdv A outer s H E hr => (fe_lc rfl sc.nd (own := [("_law_cell", 2)]) (fi_val (fe_var (i := 0) rfl (by first | exact Or.inl rfl | exact Or.inr (Or.inl rfl) | exact Or.inr (Or.inr rfl)))) (blkOk_by (by show blkC ["_law_script", "_law_wide", "_law_cell"] (defScope s_law_begun) _ [("_law_cell", 2)] = true; decide +kernel)) (fun _ _ _ _ _ => (fg_name (i := 2) sc.nd rfl (by first | exact Or.inl rfl | exact Or.inr rfl))) (fun _ _ _ _ _ => fts_nil) (fun _ _ _ _ _ => (fe_op opD_mod (fe_ty bD_int rfl G.n_int bo_int (fa_cons (fe_b bD_abs rfl G.n_abs bo_abs (fa_cons (fe_var (i := 2) rfl (by first | exact Or.inl rfl | exact Or.inr (Or.inl rfl) | exact Or.inr (Or.inr rfl))) fa_nil)) fa_nil)) fe_int)))) rfl (by first | exact Or.inl rfl | exact Or.inr (Or.inl rfl) | exact Or.inr (Or.inr rfl)) (by decide +kernel) (by decide +kernel)
/-! Scheme.dependences -/
theorem sc_Scheme_dependences : FnScope ["self"] ["self"] (defScope s_Scheme_dependences) := C8.fnScope_by (by decide +kernel)
theorem ok_Scheme_dependences {f : Addr} {fd : FuncData} (G : Gt K mg) (F : Fun K "dependences" "Scheme.dependences" s_Scheme_dependences f fd) : FnOk P w K mg base CX0 2 f fd ["self"] (spD ⟨K, mg⟩ 1 D_Scheme_dependences) :=
  have sc := sc_Scheme_dependences
  def_ok (k := 1) F sc (fun cdv A outer s H E hr => (fss_one (fs_ret (fe_fld G.f_Scheme_own_dependences (fe_var (i := 0) rfl (by first | exact Or.inl rfl | exact Or.inr (Or.inl rfl) | exact Or.inr (Or.inr rfl)))))))
/-! Table.columns -/
theorem sc_Table_columns : FnScope ["self"] ["self"] (defScope s_Table_columns) := C8.fnScope_by (by decide +kernel)
theorem ok_Table_columns {f : Addr} {fd : FuncData} (G : Gt K mg) (F : Fun K "columns" "Table.columns" s_Table_columns f fd) : FnOk P w K mg base CX0 2 f fd ["self"] (spD ⟨K, mg⟩ 1 D_Table_columns) :=
  have sc := sc_Table_columns
  def_ok (k := 1) F sc (fun cdv A outer s H E hr => (fss_one (fs_ret (fe_fld G.f_Table_own_columns (fe_var (i := 0) rfl (by first | exact Or.inl rfl | exact Or.inr (Or.inl rfl) | exact Or.inr (Or.inr rfl)))))))
/-! Table.rows -/
theorem sc_Table_rows : FnScope ["self"] ["self"] (defScope s_Table_rows) := C8.fnScope_by (by decide +kernel)
theorem ok_Table_rows {f : Addr} {fd : FuncData} (G : Gt K mg) (F : Fun K "rows" "Table.rows" s_Table_rows f fd) : FnOk P w K mg base CX0 2 f fd ["self"] (spD ⟨K, mg⟩ 1 D_Table_rows) :=
  have sc := sc_Table_rows
  def_ok (k := 1) F sc (fun cdv A outer s H E hr => (fss_one (fs_ret (fe_fld G.f_Table_own_rows (fe_var (i := 0) rfl (by first | exact Or.inl rfl | exact Or.inr (Or.inl rfl) | exact Or.inr (Or.inr rfl)))))))
/-! name_at -/
theorem sc_name_at : FnScope ["table", "letters", "at", "keys", "key", "column"] ["table", "letters", "at"] (defScope s_name_at) := C8.fnScope_by (by decide +kernel)
theorem ok_name_at {f : Addr} {fd : FuncData} (G : Gt K mg) (F : Fun K "name_at" "name_at" s_name_at f fd) (c_p_Table_columns : PrpD P w K mg base 2 "Table" "columns" D_Table_columns) (c_p_Table_rows : PrpD P w K mg base 2 "Table" "rows" D_Table_rows) : FnOk P w K mg base CX0 4 f fd ["table", "letters", "at"] (spD ⟨K, mg⟩ 3 D_name_at) :=
  have sc := sc_name_at
  def_ok (k := 3) F sc (fun cdv A outer s H E hr => (fss_cons (fs_setLc rfl sc.nd (i := 3) rfl rfl rfl (own := [("key", 4), ("column", 5)]) (fi_zip2 rfl G.n_zip (fa_cons (fe_ix ixD_ok (fe_ix ixD_ok (fe_prop c_p_Table_rows hr (fe_var (i := 0) rfl (by first | exact Or.inl rfl | exact Or.inr (Or.inl rfl) | exact Or.inr (Or.inr rfl)))) (fe_var (i := 2) rfl (by first | exact Or.inl rfl | exact Or.inr (Or.inl rfl) | exact Or.inr (Or.inr rfl))) (fun _ _ => rfl)) fe_int (fun _ _ => rfl)) (fa_cons (fe_prop c_p_Table_columns hr (fe_var (i := 0) rfl (by first | exact Or.inl rfl | exact Or.inr (Or.inl rfl) | exact Or.inr (Or.inr rfl)))) fa_nil))) (blkOk_by (by show blkC ["table", "letters", "at", "keys", "key", "column"] (defScope s_name_at) _ [("key", 4), ("column", 5)] = true; decide +kernel)) (fun _ _ _ _ _ => (fg_tup rfl (fgs_cons (fg_name (i := 4) sc.nd rfl (by first | exact Or.inl rfl | exact Or.inr rfl)) (fgs_cons (fg_name (i := 5) sc.nd rfl (by first | exact Or.inl rfl | exact Or.inr rfl)) fgs_nil)) (n := 2) (hg := (gCons_len (gCons_len gNil_len))))) (fun _ _ _ _ _ => (fts_one (FC.ft (fc_data opD_in (fe_var (i := 5) rfl (by first | exact Or.inl rfl | exact Or.inr (Or.inl rfl) | exact Or.inr (Or.inr rfl))) (fe_var (i := 1) rfl (by first | exact Or.inl rfl | exact Or.inr (Or.inl rfl) | exact Or.inr (Or.inr rfl))) rfl)))) (fun _ _ _ _ _ => (fe_var (i := 4) rfl (by first | exact Or.inl rfl | exact Or.inr (Or.inl rfl) | exact Or.inr (Or.inr rfl)))))
  (fss_one (fs_ret (fe_ty bD_tup rfl G.n_tuple bo_tuple (fa_cons (fe_ifExp (FC.ft (fc_data opD_in (fe_gl G.g_ROW rfl) (fe_var (i := 1) rfl (by first | exact Or.inl rfl | exact Or.inr (Or.inl rfl) | exact Or.inr (Or.inr rfl))) rfl)) (fe_op opD_add (fe_var (i := 3) rfl (by first | exact Or.inl rfl | exact Or.inr (Or.inl rfl) | exact Or.inr (Or.inr rfl))) (fe_lst (fa_cons (fe_var (i := 2) rfl (by first | exact Or.inl rfl | exact Or.inr (Or.inl rfl) | exact Or.inr (Or.inr rfl))) fa_nil))) (fe_var (i := 3) rfl (by first | exact Or.inl rfl | exact Or.inr (Or.inl rfl) | exact Or.inr (Or.inr rfl)))) fa_nil))))))
/-! rises -/
theorem sc_rises : FnScope ["letters", "at"] ["letters"] (defScope s_rises) := C8.fnScope_by (by decide +kernel)
theorem ok_rises {f : Addr} {fd : FuncData} (G : Gt K mg) (F : Fun K "rises" "rises" s_rises f fd) : FnOk P w K mg base CX0 2 f fd ["letters"] (spD ⟨K, mg⟩ 1 D_rises) :=
  have sc := sc_rises
  def_ok (k := 1) F sc (fun cdv A outer s H E hr => (fss_one (fs_ret (fe_b (bD_all rfl) rfl G.n_all bo_all (fa_cons (fe_lc rfl sc.nd (own := [("at", 1)]) (fi_range1 rfl G.n_range (fa_cons (fe_op opD_sub (fe_b bD_len rfl G.n_len bo_len (fa_cons (fe_var (i := 0) rfl (by first | exact Or.inl rfl | exact Or.inr (Or.inl rfl) | exact Or.inr (Or.inr rfl))) fa_nil)) fe_int) fa_nil)) (blkOk_by (by show blkC ["letters", "at"] (defScope s_rises) _ [("at", 1)] = true; decide +kernel)) (fun _ _ _ _ _ => (fg_name (i := 1) sc.nd rfl (by first | exact Or.inl rfl | exact Or.inr rfl))) (fun _ _ _ _ _ => fts_nil) (fun _ _ _ _ _ => (FC.fe (fc_data opD_lt (fe_ix ixD_ok (fe_var (i := 0) rfl (by first | exact Or.inl rfl | exact Or.inr (Or.inl rfl) | exact Or.inr (Or.inr rfl))) (fe_var (i := 1) rfl (by first | exact Or.inl rfl | exact Or.inr (Or.inl rfl) | exact Or.inr (Or.inr rfl))) (fun _ _ => rfl)) (fe_ix ixD_ok (fe_var (i := 0) rfl (by first | exact Or.inl rfl | exact Or.inr (Or.inl rfl) | exact Or.inr (Or.inr rfl))) (fe_op opD_add (fe_var (i := 1) rfl (by first | exact Or.inl rfl | exact Or.inr (Or.inl rfl) | exact Or.inr (Or.inr rfl))) fe_int) (fun _ _ => rfl)) rfl)))) fa_nil)))))
/-! is_set -/
theorem sc_is_set : FnScope ["columns", "thing", "letter"] ["columns", "thing"] (defScope s_is_set) := C8.fnScope_by (by decide +kernel)
theorem ok_is_set {f : Addr} {fd : FuncData} (G : Gt K mg) (F : Fun K "is_set" "is_set" s_is_set f fd) (c_rises : CalD P w K mg base 2 "rises" 1 [] D_rises) : FnOk P w K mg base CX0 3 f fd ["columns", "thing"] (spD ⟨K, mg⟩ 2 D_is_set) :=
  have sc := sc_is_set
  def_ok (k := 2) F sc (fun cdv A outer s H E hr => (fss_one (fs_ret (fe_and (fe_isi rfl G.n_isinstance (pe_bltn (v := .ty "str") rfl G.n_str PyProof.Rows.boot_str rfl) (.ty _) G.i_str (fe_var (i := 1) rfl (by first | exact Or.inl rfl | exact Or.inr (Or.inl rfl) | exact Or.inr (Or.inr rfl)))) (fe_and (fe_call c_rises hr rfl (fa_cons (fe_var (i := 1) rfl (by first | exact Or.inl rfl | exact Or.inr (Or.inl rfl) | exact Or.inr (Or.inr rfl))) fa_nil)) (fe_one (fe_b (bD_all rfl) rfl G.n_all bo_all (fa_cons (fe_lc rfl sc.nd (own := [("letter", 2)]) (fi_val (fe_var (i := 1) rfl (by first | exact Or.inl rfl | exact Or.inr (Or.inl rfl) | exact Or.inr (Or.inr rfl)))) (blkOk_by (by show blkC ["columns", "thing", "letter"] (defScope s_is_set) _ [("letter", 2)] = true; decide +kernel)) (fun _ _ _ _ _ => (fg_name (i := 2) sc.nd rfl (by first | exact Or.inl rfl | exact Or.inr rfl))) (fun _ _ _ _ _ => fts_nil) (fun _ _ _ _ _ => (FC.fe (fc_data opD_in (fe_var (i := 2) rfl (by first | exact Or.inl rfl | exact Or.inr (Or.inl rfl) | exact Or.inr (Or.inr rfl))) (fe_op opD_add (fe_var (i := 0) rfl (by first | exact Or.inl rfl | exact Or.inr (Or.inl rfl) | exact Or.inr (Or.inr rfl))) (fe_gl G.g_ROW rfl)) rfl)))) fa_nil))))))))
/-! need_set -/
theorem sc_need_set : FnScope ["columns", "letters"] ["columns", "letters"] (defScope s_need_set) := C8.fnScope_by (by decide +kernel)
theorem ok_need_set {f : Addr} {fd : FuncData} (G : Gt K mg) (F : Fun K "need_set" "need_set" s_need_set f fd) (c_is_set : CalD P w K mg base 3 "is_set" 2 [] D_is_set) : FnOk P w K mg base CX0 4 f fd ["columns", "letters"] (spD ⟨K, mg⟩ 2 D_need_set) :=
  have sc := sc_need_set
  def_ok (k := 3) F sc (fun cdv A outer s H E hr => (fss_one (fs_if (ft_not (ft_val (fe_call c_is_set hr rfl (fa_cons (fe_var (i := 0) rfl (by first | exact Or.inl rfl | exact Or.inr (Or.inl rfl) | exact Or.inr (Or.inr rfl))) (fa_cons (fe_var (i := 1) rfl (by first | exact Or.inl rfl | exact Or.inr (Or.inl rfl) | exact Or.inr (Or.inr rfl))) fa_nil))))) (fss_one fs_never) fss_nil)))
/-! Table.groups -/
theorem sc_Table_groups : FnScope ["self", "letters", "found", "at", "name"] ["self", "letters"] (defScope s_Table_groups) := C8.fnScope_by (by decide +kernel)
theorem ok_Table_groups {f : Addr} {fd : FuncData} (G : Gt K mg) (F : Fun K "groups" "Table.groups" s_Table_groups f fd) (c_name_at : CalD P w K mg base 4 "name_at" 3 [] D_name_at) (c_need_set : CalD P w K mg base 4 "need_set" 2 [] D_need_set) : FnOk P w K mg base CX0 5 f fd ["self", "letters"] (spD ⟨K, mg⟩ 2 D_Table_groups) :=
  have sc := sc_Table_groups
  def_ok (k := 4) F sc (fun cdv A outer s H E hr => (fss_cons (fs_expr (fe_call c_need_set hr rfl (fa_cons (fe_fld G.f_Table_own_columns (fe_var (i := 0) rfl (by first | exact Or.inl rfl | exact Or.inr (Or.inl rfl) | exact Or.inr (Or.inr rfl)))) (fa_cons (fe_var (i := 1) rfl (by first | exact Or.inl rfl | exact Or.inr (Or.inl rfl) | exact Or.inr (Or.inr rfl))) fa_nil))))
  (fss_cons (fs_set (i := 2) sc.nd rfl (by first | exact Or.inl rfl | exact Or.inr rfl) fe_dit0)
  (fss_cons (fs_for PassesOwn.never rfl (fi_range1 rfl G.n_range (fa_cons (fe_b bD_len rfl G.n_len bo_len (fa_cons (fe_fld G.f_Table_own_rows (fe_var (i := 0) rfl (by first | exact Or.inl rfl | exact Or.inr (Or.inl rfl) | exact Or.inr (Or.inr rfl)))) fa_nil)) fa_nil)) (fg_name (i := 3) sc.nd rfl (by first | exact Or.inl rfl | exact Or.inr rfl))
   (fss_cons (fs_set (i := 4) sc.nd rfl (by first | exact Or.inl rfl | exact Or.inr rfl) (fe_call c_name_at hr rfl (fa_cons (fe_var (i := 0) rfl (by first | exact Or.inl rfl | exact Or.inr (Or.inl rfl) | exact Or.inr (Or.inr rfl))) (fa_cons (fe_var (i := 1) rfl (by first | exact Or.inl rfl | exact Or.inr (Or.inl rfl) | exact Or.inr (Or.inr rfl))) (fa_cons (fe_var (i := 3) rfl (by first | exact Or.inl rfl | exact Or.inr (Or.inl rfl) | exact Or.inr (Or.inr rfl))) fa_nil)))))
  (fss_one (fs_dput hr (pv 2) (fe_var (i := 4) rfl (by first | exact Or.inl rfl | exact Or.inr (Or.inl rfl) | exact Or.inr (Or.inr rfl))) (fe_op opD_add (fe_dget2 hr (fe_var (i := 2) rfl (by first | exact Or.inl rfl | exact Or.inr (Or.inl rfl) | exact Or.inr (Or.inr rfl))) (fe_var (i := 4) rfl (by first | exact Or.inl rfl | exact Or.inr (Or.inl rfl) | exact Or.inr (Or.inr rfl))) (fe_lst fa_nil) ⟨rfl, rfl, rfl, rfl⟩) (fe_lst (fa_cons (fe_var (i := 3) rfl (by first | exact Or.inl rfl | exact Or.inr (Or.inl rfl) | exact Or.inr (Or.inr rfl))) fa_nil)))))))
  (fss_one (fs_ret (fe_vals rfl (fe_var (i := 2) rfl (by first | exact Or.inl rfl | exact Or.inr (Or.inl rfl) | exact Or.inr (Or.inr rfl))) rfl G.n_list)))))))
/-! Table.keeps -/
theorem sc_Table_keeps : FnScope ["self", "lower", "letter", "group", "at"] ["self", "lower", "letter"] (defScope s_Table_keeps) := C8.fnScope_by (by decide +kernel)
theorem ok_Table_keeps {f : Addr} {fd : FuncData} (G : Gt K mg) (F : Fun K "keeps" "Table.keeps" s_Table_keeps f fd) (c_m_Table_groups : MetD P w K mg base 5 "Table" "groups" 2 [] D_Table_groups) (c_name_at : CalD P w K mg base 4 "name_at" 3 [] D_name_at) : FnOk P w K mg base CX0 6 f fd ["self", "lower", "letter"] (spD ⟨K, mg⟩ 3 D_Table_keeps) :=
  have sc := sc_Table_keeps
  def_ok (k := 5) F sc (fun cdv A outer s H E hr => (fss_cons (fs_for PassesOwn.never rfl (fi_val (fe_meth c_m_Table_groups hr (fe_var (i := 0) rfl (by first | exact Or.inl rfl | exact Or.inr (Or.inl rfl) | exact Or.inr (Or.inr rfl))) (fa_cons (fe_var (i := 1) rfl (by first | exact Or.inl rfl | exact Or.inr (Or.inl rfl) | exact Or.inr (Or.inr rfl))) fa_nil))) (fg_name (i := 3) sc.nd rfl (by first | exact Or.inl rfl | exact Or.inr rfl))
   (fss_one (fs_if (FC.ft (fc_data opD_gt (fe_b bD_lenT rfl G.n_len bo_len (fa_cons (fe_dc rfl sc.nd hr (own := [("at", 4)]) (fi_val (fe_var (i := 3) rfl (by first | exact Or.inl rfl | exact Or.inr (Or.inl rfl) | exact Or.inr (Or.inr rfl)))) (blkOk_by (by show blkC ["self", "lower", "letter", "group", "at"] (defScope s_Table_keeps) _ [("at", 4)] = true; decide +kernel)) (fun _ _ _ _ _ => (fg_name (i := 4) sc.nd rfl (by first | exact Or.inl rfl | exact Or.inr rfl))) (fun _ _ _ _ _ => fts_nil) (fun _ _ _ _ _ => (fe_call c_name_at hr rfl (fa_cons (fe_var (i := 0) rfl (by first | exact Or.inl rfl | exact Or.inr (Or.inl rfl) | exact Or.inr (Or.inr rfl))) (fa_cons (fe_var (i := 2) rfl (by first | exact Or.inl rfl | exact Or.inr (Or.inl rfl) | exact Or.inr (Or.inr rfl))) (fa_cons (fe_var (i := 4) rfl (by first | exact Or.inl rfl | exact Or.inr (Or.inl rfl) | exact Or.inr (Or.inr rfl))) fa_nil))))) (fun _ _ _ _ _ => fe_bl)) fa_nil)) fe_int rfl)) (fss_one (fs_ret fe_bl)) fss_nil)))
  (fss_one (fs_ret fe_bl))))
/-! Scheme.columns -/
theorem sc_Scheme_columns : FnScope ["self"] ["self"] (defScope s_Scheme_columns) := C8.fnScope_by (by decide +kernel)
theorem ok_Scheme_columns {f : Addr} {fd : FuncData} (G : Gt K mg) (F : Fun K "columns" "Scheme.columns" s_Scheme_columns f fd) : FnOk P w K mg base CX0 2 f fd ["self"] (spD ⟨K, mg⟩ 1 D_Scheme_columns) :=
  have sc := sc_Scheme_columns
  def_ok (k := 1) F sc (fun cdv A outer s H E hr => (fss_one (fs_ret (fe_fld G.f_Scheme_own_columns (fe_var (i := 0) rfl (by first | exact Or.inl rfl | exact Or.inr (Or.inl rfl) | exact Or.inr (Or.inr rfl)))))))
/-! Table.broken -/
theorem sc_Table_broken : FnScope ["self", "scheme", "at", "lower", "letter"] ["self", "scheme"] (defScope s_Table_broken) := C8.fnScope_by (by decide +kernel)
theorem ok_Table_broken {f : Addr} {fd : FuncData} (G : Gt K mg) (F : Fun K "broken" "Table.broken" s_Table_broken f fd) (c_p_Scheme_dependences : PrpD P w K mg base 2 "Scheme" "dependences" D_Scheme_dependences) (c_m_Table_keeps : MetD P w K mg base 6 "Table" "keeps" 3 [] D_Table_keeps) (c_p_Scheme_columns : PrpD P w K mg base 2 "Scheme" "columns" D_Scheme_columns) : FnOk P w K mg base CX0 7 f fd ["self", "scheme"] (spD ⟨K, mg⟩ 2 D_Table_broken) :=
  have sc := sc_Table_broken
  def_ok (k := 6) F sc (fun cdv A outer s H E hr => (fss_cons (fs_if (FC.ft (fc_data (opD_ne hr) (fe_fld G.f_Table_own_columns (fe_var (i := 0) rfl (by first | exact Or.inl rfl | exact Or.inr (Or.inl rfl) | exact Or.inr (Or.inr rfl)))) (fe_prop c_p_Scheme_columns hr (fe_var (i := 1) rfl (by first | exact Or.inl rfl | exact Or.inr (Or.inl rfl) | exact Or.inr (Or.inr rfl)))) rfl)) (fss_one fs_never) fss_nil)
  (fss_cons (fs_for PassesOwn.never rfl (fi_enum rfl G.n_enumerate (fe_prop c_p_Scheme_dependences hr (fe_var (i := 1) rfl (by first | exact Or.inl rfl | exact Or.inr (Or.inl rfl) | exact Or.inr (Or.inr rfl))))) (fg_tup rfl (fgs_cons (fg_name (i := 2) sc.nd rfl (by first | exact Or.inl rfl | exact Or.inr rfl)) (fgs_cons (fg_tup rfl (fgs_cons (fg_name (i := 3) sc.nd rfl (by first | exact Or.inl rfl | exact Or.inr rfl)) (fgs_cons (fg_name (i := 4) sc.nd rfl (by first | exact Or.inl rfl | exact Or.inr rfl)) fgs_nil)) (n := 2) (hg := (gCons_len (gCons_len gNil_len)))) fgs_nil)) (n := 2) (hg := (gCons_len (gCons_len gNil_len))))
   (fss_one (fs_if (ft_not (ft_val (fe_meth c_m_Table_keeps hr (fe_var (i := 0) rfl (by first | exact Or.inl rfl | exact Or.inr (Or.inl rfl) | exact Or.inr (Or.inr rfl))) (fa_cons (fe_var (i := 3) rfl (by first | exact Or.inl rfl | exact Or.inr (Or.inl rfl) | exact Or.inr (Or.inr rfl))) (fa_cons (fe_var (i := 4) rfl (by first | exact Or.inl rfl | exact Or.inr (Or.inl rfl) | exact Or.inr (Or.inr rfl))) fa_nil))))) (fss_one (fs_ret (fe_var (i := 2) rfl (by first | exact Or.inl rfl | exact Or.inr (Or.inl rfl) | exact Or.inr (Or.inr rfl))))) fss_nil)))
  (fss_one (fs_ret fe_non)))))
/-! _law_is_within -/
theorem sc_law_is_within : FnScope ["_law_one", "_law_other", "_law_letter"] ["_law_one", "_law_other"] (defScope s_law_is_within) := C8.fnScope_by (by decide +kernel)
theorem ok_law_is_within {f : Addr} {fd : FuncData} (G : Gt K mg) (F : Fun K "_law_is_within" "_law_is_within" s_law_is_within f fd) : FnOk P w K mg base CX0 2 f fd ["_law_one", "_law_other"] (spD ⟨K, mg⟩ 2 D_law_is_within) :=
  have sc := sc_law_is_within
  def_ok (k := 1) F sc (fun cdv A outer s H E hr => (fss_one (fs_ret (FC.fe (fc_data (opD_eq hr) (fe_lc rfl sc.nd (own := [("_law_letter", 2)]) (fi_val (fe_var (i := 0) rfl (by first | exact Or.inl rfl | exact Or.inr (Or.inl rfl) | exact Or.inr (Or.inr rfl)))) (blkOk_by (by show blkC ["_law_one", "_law_other", "_law_letter"] (defScope s_law_is_within) _ [("_law_letter", 2)] = true; decide +kernel)) (fun _ _ _ _ _ => (fg_name (i := 2) sc.nd rfl (by first | exact Or.inl rfl | exact Or.inr rfl))) (fun _ _ _ _ _ => (fts_one (FC.ft (fc_data opD_notIn (fe_var (i := 2) rfl (by first | exact Or.inl rfl | exact Or.inr (Or.inl rfl) | exact Or.inr (Or.inr rfl))) (fe_var (i := 1) rfl (by first | exact Or.inl rfl | exact Or.inr (Or.inl rfl) | exact Or.inr (Or.inr rfl))) rfl)))) (fun _ _ _ _ _ => (fe_var (i := 2) rfl (by first | exact Or.inl rfl | exact Or.inr (Or.inl rfl) | exact Or.inr (Or.inr rfl))))) (fe_lst fa_nil) rfl)))))
/-! within -/
theorem sc_within : FnScope ["one", "other", "letter"] ["one", "other"] (defScope s_within) := C8.fnScope_by (by decide +kernel)
theorem ok_within {f : Addr} {fd : FuncData} (G : Gt K mg) (F : Fun K "within" "within" s_within f fd) : FnOk P w K mg base CX0 2 f fd ["one", "other"] (spD ⟨K, mg⟩ 2 D_within) :=
  have sc := sc_within
  def_ok (k := 1) F sc (fun cdv A outer s H E hr => (fss_one (fs_ret (fe_b (bD_all rfl) rfl G.n_all bo_all (fa_cons (fe_lc rfl sc.nd (own := [("letter", 2)]) (fi_val (fe_var (i := 0) rfl (by first | exact Or.inl rfl | exact Or.inr (Or.inl rfl) | exact Or.inr (Or.inr rfl)))) (blkOk_by (by show blkC ["one", "other", "letter"] (defScope s_within) _ [("letter", 2)] = true; decide +kernel)) (fun _ _ _ _ _ => (fg_name (i := 2) sc.nd rfl (by first | exact Or.inl rfl | exact Or.inr rfl))) (fun _ _ _ _ _ => fts_nil) (fun _ _ _ _ _ => (FC.fe (fc_data opD_in (fe_var (i := 2) rfl (by first | exact Or.inl rfl | exact Or.inr (Or.inl rfl) | exact Or.inr (Or.inr rfl))) (fe_var (i := 1) rfl (by first | exact Or.inl rfl | exact Or.inr (Or.inl rfl) | exact Or.inr (Or.inr rfl))) rfl)))) fa_nil)))))
/-! joined -/
theorem sc_joined : FnScope ["one", "other"] ["one", "other"] (defScope s_joined) := C8.fnScope_by (by decide +kernel)
theorem ok_joined {f : Addr} {fd : FuncData} (G : Gt K mg) (F : Fun K "joined" "joined" s_joined f fd) : FnOk P w K mg base CX0 2 f fd ["one", "other"] (spD ⟨K, mg⟩ 2 D_joined) :=
  have sc := sc_joined
  def_ok (k := 1) F sc (fun cdv A outer s H E hr => (fss_one (fs_ret (fe_m1 PySem.F.slot_str_join PySem.F.type_str_join mD_join fe_str (fe_sset rfl rfl G.n_sorted rfl G.n_set (fe_op opD_add (fe_var (i := 0) rfl (by first | exact Or.inl rfl | exact Or.inr (Or.inl rfl) | exact Or.inr (Or.inr rfl))) (fe_var (i := 1) rfl (by first | exact Or.inl rfl | exact Or.inr (Or.inl rfl) | exact Or.inr (Or.inr rfl)))))))))
/-! closure_of -/
theorem sc_closure_of : FnScope ["columns", "dependences", "letters", "found", "before", "lower", "letter"] ["columns", "dependences", "letters"] (defScope s_closure_of) := C8.fnScope_by (by decide +kernel)
theorem ok_closure_of {f : Addr} {fd : FuncData} (G : Gt K mg) (F : Fun K "closure_of" "closure_of" s_closure_of f fd) (c_within : CalD P w K mg base 2 "within" 2 [] D_within) (c_joined : CalD P w K mg base 2 "joined" 2 [] D_joined) : FnOk P w K mg base CX0 3 f fd ["columns", "dependences", "letters"] (spD ⟨K, mg⟩ 3 D_closure_of) :=
  have sc := sc_closure_of
  def_ok (k := 2) F sc (fun cdv A outer s H E hr => (fss_cons (fs_par2 rfl sc.nd (i := 3) (j := 4) rfl rfl (by decide) rfl rfl (fp_cons (fe_var (i := 2) rfl (by first | exact Or.inl rfl | exact Or.inr (Or.inl rfl) | exact Or.inr (Or.inr rfl))) (fp_cons fe_non fp_nil)) rfl)
  (fss_cons (fs_while 1000000 PassesOwn.never (FC.ft (fc_data (opD_ne hr) (fe_var (i := 3) rfl (by first | exact Or.inl rfl | exact Or.inr (Or.inl rfl) | exact Or.inr (Or.inr rfl))) (fe_var (i := 4) rfl (by first | exact Or.inl rfl | exact Or.inr (Or.inl rfl) | exact Or.inr (Or.inr rfl))) rfl)) (fss_cons (fs_set (i := 4) sc.nd rfl (by first | exact Or.inl rfl | exact Or.inr rfl) (fe_var (i := 3) rfl (by first | exact Or.inl rfl | exact Or.inr (Or.inl rfl) | exact Or.inr (Or.inr rfl))))
  (fss_cons (fs_if (FC.ft (fc_data opD_in (fe_gl G.g_ROW rfl) (fe_var (i := 3) rfl (by first | exact Or.inl rfl | exact Or.inr (Or.inl rfl) | exact Or.inr (Or.inr rfl))) rfl)) (fss_one (fs_set (i := 3) sc.nd rfl (by first | exact Or.inl rfl | exact Or.inr rfl) (fe_call c_joined hr rfl (fa_cons (fe_var (i := 3) rfl (by first | exact Or.inl rfl | exact Or.inr (Or.inl rfl) | exact Or.inr (Or.inr rfl))) (fa_cons (fe_var (i := 0) rfl (by first | exact Or.inl rfl | exact Or.inr (Or.inl rfl) | exact Or.inr (Or.inr rfl))) fa_nil))))) fss_nil)
  (fss_one (fs_for PassesOwn.never rfl (fi_val (fe_var (i := 1) rfl (by first | exact Or.inl rfl | exact Or.inr (Or.inl rfl) | exact Or.inr (Or.inr rfl)))) (fg_tup rfl (fgs_cons (fg_name (i := 5) sc.nd rfl (by first | exact Or.inl rfl | exact Or.inr rfl)) (fgs_cons (fg_name (i := 6) sc.nd rfl (by first | exact Or.inl rfl | exact Or.inr rfl)) fgs_nil)) (n := 2) (hg := (gCons_len (gCons_len gNil_len))))
   (fss_one (fs_if (ft_val (fe_call c_within hr rfl (fa_cons (fe_var (i := 5) rfl (by first | exact Or.inl rfl | exact Or.inr (Or.inl rfl) | exact Or.inr (Or.inr rfl))) (fa_cons (fe_var (i := 3) rfl (by first | exact Or.inl rfl | exact Or.inr (Or.inl rfl) | exact Or.inr (Or.inr rfl))) fa_nil)))) (fss_one (fs_set (i := 3) sc.nd rfl (by first | exact Or.inl rfl | exact Or.inr rfl) (fe_call c_joined hr rfl (fa_cons (fe_var (i := 3) rfl (by first | exact Or.inl rfl | exact Or.inr (Or.inl rfl) | exact Or.inr (Or.inr rfl))) (fa_cons (fe_var (i := 6) rfl (by first | exact Or.inl rfl | exact Or.inr (Or.inl rfl) | exact Or.inr (Or.inr rfl))) fa_nil))))) fss_nil)))))))
  (fss_one (fs_ret (fe_var (i := 3) rfl (by first | exact Or.inl rfl | exact Or.inr (Or.inl rfl) | exact Or.inr (Or.inr rfl))))))))
/-! Scheme.closure -/
theorem sc_Scheme_closure : FnScope ["self", "letters"] ["self", "letters"] (defScope s_Scheme_closure) := C8.fnScope_by (by decide +kernel)
theorem ok_Scheme_closure {f : Addr} {fd : FuncData} (G : Gt K mg) (F : Fun K "closure" "Scheme.closure" s_Scheme_closure f fd) (c_closure_of : CalD P w K mg base 3 "closure_of" 3 [] D_closure_of) (c_need_set : CalD P w K mg base 4 "need_set" 2 [] D_need_set) : FnOk P w K mg base CX0 5 f fd ["self", "letters"] (spD ⟨K, mg⟩ 2 D_Scheme_closure) :=
  have sc := sc_Scheme_closure
  def_ok (k := 4) F sc (fun cdv A outer s H E hr => (fss_cons (fs_expr (fe_call c_need_set hr rfl (fa_cons (fe_fld G.f_Scheme_own_columns (fe_var (i := 0) rfl (by first | exact Or.inl rfl | exact Or.inr (Or.inl rfl) | exact Or.inr (Or.inr rfl)))) (fa_cons (fe_var (i := 1) rfl (by first | exact Or.inl rfl | exact Or.inr (Or.inl rfl) | exact Or.inr (Or.inr rfl))) fa_nil))))
  (fss_one (fs_ret (fe_call c_closure_of hr rfl (fa_cons (fe_fld G.f_Scheme_own_columns (fe_var (i := 0) rfl (by first | exact Or.inl rfl | exact Or.inr (Or.inl rfl) | exact Or.inr (Or.inr rfl)))) (fa_cons (fe_fld G.f_Scheme_own_dependences (fe_var (i := 0) rfl (by first | exact Or.inl rfl | exact Or.inr (Or.inl rfl) | exact Or.inr (Or.inr rfl)))) (fa_cons (fe_var (i := 1) rfl (by first | exact Or.inl rfl | exact Or.inr (Or.inl rfl) | exact Or.inr (Or.inr rfl))) fa_nil))))))))
/-! _law_mixed -/
theorem sc_law_mixed : FnScope ["_law_draw", "_law_turn", "_law_found", "_law_prime", "_law_blend", "_law_cell"] ["_law_draw"] (defScope s_law_mixed) := C8.fnScope_by (by decide +kernel)
theorem ok_law_mixed {f : Addr} {fd : FuncData} (G : Gt K mg) (F : Fun K "_law_mixed" "_law_mixed" s_law_mixed f fd) : FnOk P w K mg base CX0 2 f fd ["_law_draw"] (spD ⟨K, mg⟩ 1 D_law_mixed) :=
  have sc := sc_law_mixed
  def_ok (k := 1) F sc (fun cdv A outer s H E hr => (fss_cons (fs_par2 rfl sc.nd (i := 1) (j := 2) rfl rfl (by decide) rfl rfl (fp_cons (fe_op opD_add (fe_drI hr (fe_var (i := 0) rfl (by first | exact Or.inl rfl | exact Or.inr (Or.inl rfl) | exact Or.inr (Or.inr rfl))) v_turn) fe_int) (fp_cons fe_int fp_nil)) rfl)
  (fss_cons (fs_drSet hr (fe_var (i := 0) rfl (by first | exact Or.inl rfl | exact Or.inr (Or.inl rfl) | exact Or.inr (Or.inr rfl))) (fe_var (i := 1) rfl (by first | exact Or.inl rfl | exact Or.inr (Or.inl rfl) | exact Or.inr (Or.inr rfl))) p_turn)
  (fss_cons (fs_for PassesOwn.never rfl (fi_val (fe_lst (fa_cons fe_int (fa_cons fe_int (fa_cons fe_int (fa_cons fe_int fa_nil)))))) (fg_name (i := 3) sc.nd rfl (by first | exact Or.inl rfl | exact Or.inr rfl))
   (fss_cons (fs_set (i := 4) sc.nd rfl (by first | exact Or.inl rfl | exact Or.inr rfl) (fe_op opD_add (fe_op opD_mul fe_int (fe_var (i := 1) rfl (by first | exact Or.inl rfl | exact Or.inr (Or.inl rfl) | exact Or.inr (Or.inr rfl)))) (fe_op opD_fdiv (fe_var (i := 3) rfl (by first | exact Or.inl rfl | exact Or.inr (Or.inl rfl) | exact Or.inr (Or.inr rfl))) fe_int)))
  (fss_cons (fs_for PassesOwn.never rfl (fi_drC hr (fe_var (i := 0) rfl (by first | exact Or.inl rfl | exact Or.inr (Or.inl rfl) | exact Or.inr (Or.inr rfl)))) (fg_name (i := 5) sc.nd rfl (by first | exact Or.inl rfl | exact Or.inr rfl))
   (fss_one (fs_set (i := 4) sc.nd rfl (by first | exact Or.inl rfl | exact Or.inr rfl) (fe_op opD_mod (fe_ty bD_int rfl G.n_int bo_int (fa_cons (fe_op opD_add (fe_op opD_add (fe_op opD_mul (fe_var (i := 4) rfl (by first | exact Or.inl rfl | exact Or.inr (Or.inl rfl) | exact Or.inr (Or.inr rfl))) fe_int) (fe_var (i := 5) rfl (by first | exact Or.inl rfl | exact Or.inr (Or.inl rfl) | exact Or.inr (Or.inr rfl)))) (fe_var (i := 1) rfl (by first | exact Or.inl rfl | exact Or.inr (Or.inl rfl) | exact Or.inr (Or.inr rfl)))) fa_nil)) (fe_var (i := 3) rfl (by first | exact Or.inl rfl | exact Or.inr (Or.inl rfl) | exact Or.inr (Or.inr rfl)))))))
  (fss_one (fs_set (i := 2) sc.nd rfl (by first | exact Or.inl rfl | exact Or.inr rfl) (fe_op opD_add (fe_op opD_mul (fe_var (i := 2) rfl (by first | exact Or.inl rfl | exact Or.inr (Or.inl rfl) | exact Or.inr (Or.inr rfl))) fe_int) (fe_op opD_mod (fe_ty bD_int rfl G.n_int bo_int (fa_cons (fe_op opD_pow (fe_var (i := 4) rfl (by first | exact Or.inl rfl | exact Or.inr (Or.inl rfl) | exact Or.inr (Or.inr rfl))) fe_int) fa_nil)) (fe_var (i := 3) rfl (by first | exact Or.inl rfl | exact Or.inr (Or.inl rfl) | exact Or.inr (Or.inr rfl))))))))))
  (fss_one (fs_ret (fe_var (i := 2) rfl (by first | exact Or.inl rfl | exact Or.inr (Or.inl rfl) | exact Or.inr (Or.inr rfl)))))))))
/-! _law_take -/
theorem sc_law_take : FnScope ["_law_draw", "_law_size", "_law_found"] ["_law_draw", "_law_size"] (defScope s_law_take) := C8.fnScope_by (by decide +kernel)
theorem ok_law_take {f : Addr} {fd : FuncData} (G : Gt K mg) (F : Fun K "_law_take" "_law_take" s_law_take f fd) (c_law_mixed : CalD P w K mg base 2 "_law_mixed" 1 [] D_law_mixed) : FnOk P w K mg base CX0 3 f fd ["_law_draw", "_law_size"] (spD ⟨K, mg⟩ 2 D_law_take) :=
  have sc := sc_law_take
  def_ok (k := 2) F sc (fun cdv A outer s H E hr => (fss_cons (fs_if (FC.ft (fc_data (opD_eq hr) (fe_drI hr (fe_var (i := 0) rfl (by first | exact Or.inl rfl | exact Or.inr (Or.inl rfl) | exact Or.inr (Or.inr rfl))) v_rest) fe_int rfl)) (fss_one (fs_drSet hr (fe_var (i := 0) rfl (by first | exact Or.inl rfl | exact Or.inr (Or.inl rfl) | exact Or.inr (Or.inr rfl))) (fe_ifExp (ft_drWide hr (fe_var (i := 0) rfl (by first | exact Or.inl rfl | exact Or.inr (Or.inl rfl) | exact Or.inr (Or.inr rfl)))) (fe_drPop hr (fe_var (i := 0) rfl (by first | exact Or.inl rfl | exact Or.inr (Or.inl rfl) | exact Or.inr (Or.inr rfl)))) (fe_call c_law_mixed hr rfl (fa_cons (fe_var (i := 0) rfl (by first | exact Or.inl rfl | exact Or.inr (Or.inl rfl) | exact Or.inr (Or.inr rfl))) fa_nil))) p_rest)) fss_nil)
  (fss_cons (fs_set (i := 2) sc.nd rfl (by first | exact Or.inl rfl | exact Or.inr rfl) (fe_op opD_mod (fe_ty bD_int rfl G.n_int bo_int (fa_cons (fe_drI hr (fe_var (i := 0) rfl (by first | exact Or.inl rfl | exact Or.inr (Or.inl rfl) | exact Or.inr (Or.inr rfl))) v_rest) fa_nil)) (fe_var (i := 1) rfl (by first | exact Or.inl rfl | exact Or.inr (Or.inl rfl) | exact Or.inr (Or.inr rfl)))))
  (fss_cons (fs_drSet hr (fe_var (i := 0) rfl (by first | exact Or.inl rfl | exact Or.inr (Or.inl rfl) | exact Or.inr (Or.inr rfl))) (fe_op opD_fdiv (fe_drI hr (fe_var (i := 0) rfl (by first | exact Or.inl rfl | exact Or.inr (Or.inl rfl) | exact Or.inr (Or.inr rfl))) v_rest) (fe_var (i := 1) rfl (by first | exact Or.inl rfl | exact Or.inr (Or.inl rfl) | exact Or.inr (Or.inr rfl)))) p_rest)
  (fss_one (fs_ret (fe_var (i := 2) rfl (by first | exact Or.inl rfl | exact Or.inr (Or.inl rfl) | exact Or.inr (Or.inr rfl)))))))))
/-! _law_letters -/
theorem sc_law_letters : FnScope ["_law_draw", "_law_some", "_law_one"] ["_law_draw", "_law_some"] (defScope s_law_letters) := C8.fnScope_by (by decide +kernel)
theorem ok_law_letters {f : Addr} {fd : FuncData} (G : Gt K mg) (F : Fun K "_law_letters" "_law_letters" s_law_letters f fd) (c_law_take : CalD P w K mg base 3 "_law_take" 2 [] D_law_take) : FnOk P w K mg base CX0 4 f fd ["_law_draw", "_law_some"] (spD ⟨K, mg⟩ 2 D_law_letters) :=
  have sc := sc_law_letters
  def_ok (k := 3) F sc (fun cdv A outer s H E hr => (fss_one (fs_ret (fe_m1 PySem.F.slot_str_join PySem.F.type_str_join mD_join fe_str (fe_lc rfl sc.nd (own := [("_law_one", 2)]) (fi_val (fe_var (i := 1) rfl (by first | exact Or.inl rfl | exact Or.inr (Or.inl rfl) | exact Or.inr (Or.inr rfl)))) (blkOk_by (by show blkC ["_law_draw", "_law_some", "_law_one"] (defScope s_law_letters) _ [("_law_one", 2)] = true; decide +kernel)) (fun _ _ _ _ _ => (fg_name (i := 2) sc.nd rfl (by first | exact Or.inl rfl | exact Or.inr rfl))) (fun _ _ _ _ _ => (fts_one (FC.ft (fc_data (opD_eq hr) (fe_call c_law_take hr rfl (fa_cons (fe_var (i := 0) rfl (by first | exact Or.inl rfl | exact Or.inr (Or.inl rfl) | exact Or.inr (Or.inr rfl))) (fa_cons fe_int fa_nil))) fe_int rfl)))) (fun _ _ _ _ _ => (fe_var (i := 2) rfl (by first | exact Or.inl rfl | exact Or.inr (Or.inl rfl) | exact Or.inr (Or.inr rfl)))))))))
/-! _law_pick -/
theorem sc_law_pick : FnScope ["_law_draw", "_law_some"] ["_law_draw", "_law_some"] (defScope s_law_pick) := C8.fnScope_by (by decide +kernel)
theorem ok_law_pick {f : Addr} {fd : FuncData} (G : Gt K mg) (F : Fun K "_law_pick" "_law_pick" s_law_pick f fd) (c_law_take : CalD P w K mg base 3 "_law_take" 2 [] D_law_take) : FnOk P w K mg base CX0 4 f fd ["_law_draw", "_law_some"] (spD ⟨K, mg⟩ 2 D_law_pick) :=
  have sc := sc_law_pick
  def_ok (k := 3) F sc (fun cdv A outer s H E hr => (fss_one (fs_ret (fe_ix ixD_ok (fe_var (i := 1) rfl (by first | exact Or.inl rfl | exact Or.inr (Or.inl rfl) | exact Or.inr (Or.inr rfl))) (fe_call c_law_take hr rfl (fa_cons (fe_var (i := 0) rfl (by first | exact Or.inl rfl | exact Or.inr (Or.inl rfl) | exact Or.inr (Or.inr rfl))) (fa_cons (fe_b bD_len rfl G.n_len bo_len (fa_cons (fe_var (i := 1) rfl (by first | exact Or.inl rfl | exact Or.inr (Or.inl rfl) | exact Or.inr (Or.inr rfl))) fa_nil)) fa_nil))) (fun _ _ => rfl)))))
/-! _law_sets -/
theorem sc_law_sets : FnScope ["_law_columns_here", "_law_found", "_law_letter", "_law_one"] ["_law_columns_here"] (defScope s_law_sets) := C8.fnScope_by (by decide +kernel)
theorem ok_law_sets {f : Addr} {fd : FuncData} (G : Gt K mg) (F : Fun K "_law_sets" "_law_sets" s_law_sets f fd) : FnOk P w K mg base CX0 2 f fd ["_law_columns_here"] (spD ⟨K, mg⟩ 1 D_law_sets) :=
  have sc := sc_law_sets
  def_ok (k := 1) F sc (fun cdv A outer s H E hr => (fss_cons (fs_set (i := 1) sc.nd rfl (by first | exact Or.inl rfl | exact Or.inr rfl) (fe_lst (fa_cons fe_str fa_nil)))
  (fss_cons (fs_for PassesOwn.never rfl (fi_val (fe_op opD_add (fe_var (i := 0) rfl (by first | exact Or.inl rfl | exact Or.inr (Or.inl rfl) | exact Or.inr (Or.inr rfl))) fe_str)) (fg_name (i := 2) sc.nd rfl (by first | exact Or.inl rfl | exact Or.inr rfl))
   (fss_one (fs_set (i := 1) sc.nd rfl (by first | exact Or.inl rfl | exact Or.inr rfl) (fe_op opD_add (fe_var (i := 1) rfl (by first | exact Or.inl rfl | exact Or.inr (Or.inl rfl) | exact Or.inr (Or.inr rfl))) (fe_lc rfl sc.nd (own := [("_law_one", 3)]) (fi_val (fe_var (i := 1) rfl (by first | exact Or.inl rfl | exact Or.inr (Or.inl rfl) | exact Or.inr (Or.inr rfl)))) (blkOk_by (by show blkC ["_law_columns_here", "_law_found", "_law_letter", "_law_one"] (defScope s_law_sets) _ [("_law_one", 3)] = true; decide +kernel)) (fun _ _ _ _ _ => (fg_name (i := 3) sc.nd rfl (by first | exact Or.inl rfl | exact Or.inr rfl))) (fun _ _ _ _ _ => fts_nil) (fun _ _ _ _ _ => (fe_op opD_add (fe_var (i := 3) rfl (by first | exact Or.inl rfl | exact Or.inr (Or.inl rfl) | exact Or.inr (Or.inr rfl))) (fe_var (i := 2) rfl (by first | exact Or.inl rfl | exact Or.inr (Or.inl rfl) | exact Or.inr (Or.inr rfl))))))))))
  (fss_one (fs_ret (fe_sortLen rfl G.n_sorted rfl G.n_len hr (fe_b bD_sorted rfl G.n_sorted bo_sorted (fa_cons (fe_var (i := 1) rfl (by first | exact Or.inl rfl | exact Or.inr (Or.inl rfl) | exact Or.inr (Or.inr rfl))) fa_nil))))))))
/-! is_dependence -/
theorem sc_is_dependence : FnScope ["columns", "thing"] ["columns", "thing"] (defScope s_is_dependence) := C8.fnScope_by (by decide +kernel)
theorem ok_is_dependence {f : Addr} {fd : FuncData} (G : Gt K mg) (F : Fun K "is_dependence" "is_dependence" s_is_dependence f fd) (c_is_set : CalD P w K mg base 3 "is_set" 2 [] D_is_set) : FnOk P w K mg base CX0 4 f fd ["columns", "thing"] (spD ⟨K, mg⟩ 2 D_is_dependence) :=
  have sc := sc_is_dependence
  def_ok (k := 3) F sc (fun cdv A outer s H E hr => (fss_cons (fs_if (ft_w (fw_or (ft_not (ft_val (fe_isi rfl G.n_isinstance (pe_bltn (v := .ty "tuple") rfl G.n_tuple PyProof.Rows.boot_tuple rfl) (.ty _) G.i_tuple (fe_var (i := 1) rfl (by first | exact Or.inl rfl | exact Or.inr (Or.inl rfl) | exact Or.inr (Or.inr rfl)))))) (fw_or (FC.ft (fc_data (opD_ne hr) (fe_b bD_len rfl G.n_len bo_len (fa_cons (fe_var (i := 1) rfl (by first | exact Or.inl rfl | exact Or.inr (Or.inl rfl) | exact Or.inr (Or.inr rfl))) fa_nil)) fe_int rfl)) (fw_or1 (ft_not (ft_val (fe_call c_is_set hr rfl (fa_cons (fe_var (i := 0) rfl (by first | exact Or.inl rfl | exact Or.inr (Or.inl rfl) | exact Or.inr (Or.inr rfl))) (fa_cons (fe_ix ixD_ok (fe_var (i := 1) rfl (by first | exact Or.inl rfl | exact Or.inr (Or.inl rfl) | exact Or.inr (Or.inr rfl))) fe_int (fun _ _ => rfl)) fa_nil))))))))) (fss_one (fs_ret fe_bl)) fss_nil)
  (fss_one (fs_ret (fe_and (fe_call c_is_set hr rfl (fa_cons (fe_var (i := 0) rfl (by first | exact Or.inl rfl | exact Or.inr (Or.inl rfl) | exact Or.inr (Or.inr rfl))) (fa_cons (fe_ix ixD_ok (fe_var (i := 1) rfl (by first | exact Or.inl rfl | exact Or.inr (Or.inl rfl) | exact Or.inr (Or.inr rfl))) fe_int (fun _ _ => rfl)) fa_nil))) (fe_one (FC.fe (fc_data (opD_eq hr) (fe_b bD_len rfl G.n_len bo_len (fa_cons (fe_ix ixD_ok (fe_var (i := 1) rfl (by first | exact Or.inl rfl | exact Or.inr (Or.inl rfl) | exact Or.inr (Or.inr rfl))) fe_int (fun _ _ => rfl)) fa_nil)) fe_int rfl))))))))
/-! need_dependences -/
theorem sc_need_dependences : FnScope ["columns", "dependences", "at", "one"] ["columns", "dependences"] (defScope s_need_dependences) := C8.fnScope_by (by decide +kernel)
theorem ok_need_dependences {f : Addr} {fd : FuncData} (G : Gt K mg) (F : Fun K "need_dependences" "need_dependences" s_need_dependences f fd) (c_is_dependence : CalD P w K mg base 4 "is_dependence" 2 [] D_is_dependence) : FnOk P w K mg base CX0 5 f fd ["columns", "dependences"] (spD ⟨K, mg⟩ 2 D_need_dependences) :=
  have sc := sc_need_dependences
  def_ok (k := 4) F sc (fun cdv A outer s H E hr => (fss_cons (fs_if (ft_not (ft_val (fe_isiT rfl G.n_isinstance (pks_cons (pe_bltn (v := .ty "list") rfl G.n_list PyProof.Rows.boot_list rfl) (pks_cons (pe_bltn (v := .ty "tuple") rfl G.n_tuple PyProof.Rows.boot_tuple rfl) pks_nil)) (by decide) (.cons (.ty _) (.cons (.ty _) .nil)) G.i_list_tuple (fe_var (i := 1) rfl (by first | exact Or.inl rfl | exact Or.inr (Or.inl rfl) | exact Or.inr (Or.inr rfl)))))) (fss_one fs_never) fss_nil)
  (fss_one (fs_for PassesOwn.never rfl (fi_enum rfl G.n_enumerate (fe_var (i := 1) rfl (by first | exact Or.inl rfl | exact Or.inr (Or.inl rfl) | exact Or.inr (Or.inr rfl)))) (fg_tup rfl (fgs_cons (fg_name (i := 2) sc.nd rfl (by first | exact Or.inl rfl | exact Or.inr rfl)) (fgs_cons (fg_name (i := 3) sc.nd rfl (by first | exact Or.inl rfl | exact Or.inr rfl)) fgs_nil)) (n := 2) (hg := (gCons_len (gCons_len gNil_len))))
   (fss_one (fs_if (ft_w (fw_or (FC.ft (fc_data (opD_eq hr) (fe_var (i := 2) rfl (by first | exact Or.inl rfl | exact Or.inr (Or.inl rfl) | exact Or.inr (Or.inr rfl))) (fe_gl G.g_MOST_DEPENDENCES rfl) rfl)) (fw_or1 (ft_not (ft_val (fe_call c_is_dependence hr rfl (fa_cons (fe_var (i := 0) rfl (by first | exact Or.inl rfl | exact Or.inr (Or.inl rfl) | exact Or.inr (Or.inr rfl))) (fa_cons (fe_var (i := 3) rfl (by first | exact Or.inl rfl | exact Or.inr (Or.inl rfl) | exact Or.inr (Or.inr rfl))) fa_nil)))))))) (fss_one fs_never) fss_nil))))))
/-! is_columns -/
theorem sc_is_columns : FnScope ["thing", "letter"] ["thing"] (defScope s_is_columns) := C8.fnScope_by (by decide +kernel)
theorem ok_is_columns {f : Addr} {fd : FuncData} (G : Gt K mg) (F : Fun K "is_columns" "is_columns" s_is_columns f fd) (c_rises : CalD P w K mg base 2 "rises" 1 [] D_rises) : FnOk P w K mg base CX0 3 f fd ["thing"] (spD ⟨K, mg⟩ 1 D_is_columns) :=
  have sc := sc_is_columns
  def_ok (k := 2) F sc (fun cdv A outer s H E hr => (fss_cons (fs_if (ft_w (fw_or (ft_not (ft_val (fe_isi rfl G.n_isinstance (pe_bltn (v := .ty "str") rfl G.n_str PyProof.Rows.boot_str rfl) (.ty _) G.i_str (fe_var (i := 0) rfl (by first | exact Or.inl rfl | exact Or.inr (Or.inl rfl) | exact Or.inr (Or.inr rfl)))))) (fw_or (FC.ft (fc_data (opD_eq hr) (fe_var (i := 0) rfl (by first | exact Or.inl rfl | exact Or.inr (Or.inl rfl) | exact Or.inr (Or.inr rfl))) fe_str rfl)) (fw_or1 (ft_not (ft_val (fe_call c_rises hr rfl (fa_cons (fe_var (i := 0) rfl (by first | exact Or.inl rfl | exact Or.inr (Or.inl rfl) | exact Or.inr (Or.inr rfl))) fa_nil)))))))) (fss_one (fs_ret fe_bl)) fss_nil)
  (fss_one (fs_ret (fe_b (bD_all rfl) rfl G.n_all bo_all (fa_cons (fe_lc rfl sc.nd (own := [("letter", 1)]) (fi_val (fe_var (i := 0) rfl (by first | exact Or.inl rfl | exact Or.inr (Or.inl rfl) | exact Or.inr (Or.inr rfl)))) (blkOk_by (by show blkC ["thing", "letter"] (defScope s_is_columns) _ [("letter", 1)] = true; decide +kernel)) (fun _ _ _ _ _ => (fg_name (i := 1) sc.nd rfl (by first | exact Or.inl rfl | exact Or.inr rfl))) (fun _ _ _ _ _ => fts_nil) (fun _ _ _ _ _ => (FC.fe (fc_data opD_in (fe_var (i := 1) rfl (by first | exact Or.inl rfl | exact Or.inr (Or.inl rfl) | exact Or.inr (Or.inr rfl))) (fe_gl G.g_ALL_COLUMNS rfl) rfl)))) fa_nil))))))
/-! need_columns -/
theorem sc_need_columns : FnScope ["given"] ["given"] (defScope s_need_columns) := C8.fnScope_by (by decide +kernel)
theorem ok_need_columns {f : Addr} {fd : FuncData} (G : Gt K mg) (F : Fun K "need_columns" "need_columns" s_need_columns f fd) (c_is_columns : CalD P w K mg base 3 "is_columns" 1 [] D_is_columns) : FnOk P w K mg base CX0 4 f fd ["given"] (spD ⟨K, mg⟩ 1 D_need_columns) :=
  have sc := sc_need_columns
  def_ok (k := 3) F sc (fun cdv A outer s H E hr => (fss_one (fs_if (ft_not (ft_val (fe_call c_is_columns hr rfl (fa_cons (fe_var (i := 0) rfl (by first | exact Or.inl rfl | exact Or.inr (Or.inl rfl) | exact Or.inr (Or.inr rfl))) fa_nil)))) (fss_one fs_never) fss_nil)))
/-! Scheme.__init__ -/
theorem sc_Scheme_init : FnScope ["self", "columns", "dependences"] ["self", "columns", "dependences"] (defScope s_Scheme_init) := C8.fnScope_by (by decide +kernel)
theorem ok_Scheme_init {f : Addr} {fd : FuncData} {dvs : List V} {kws : List (Str × V)} (G : Gt K mg) (F : FunD K "__init__" "Scheme.__init__" (defArgs s_Scheme_init) (defBody s_Scheme_init) (defScope s_Scheme_init) dvs kws f fd) (c_need_dependences : CalD P w K mg base 5 "need_dependences" 2 [] D_need_dependences) (c_need_columns : CalD P w K mg base 4 "need_columns" 1 [] D_need_columns) : FnOk P w K mg base CX0 6 f fd ["self", "columns", "dependences"] (spI ⟨K, mg⟩ 3 "Scheme" I_Scheme) :=
  have sc := sc_Scheme_init
  init_ok (k := 5) F sc (fun cdv A outer s H E hr => (fj_expr (fe_call c_need_columns hr rfl (fa_cons (fe_var (i := 1) rfl (by first | exact Or.inl rfl | exact Or.inr (Or.inl rfl) | exact Or.inr (Or.inr rfl))) fa_nil))
  (fj_expr (fe_call c_need_dependences hr rfl (fa_cons (fe_var (i := 1) rfl (by first | exact Or.inl rfl | exact Or.inr (Or.inl rfl) | exact Or.inr (Or.inr rfl))) (fa_cons (fe_var (i := 2) rfl (by first | exact Or.inl rfl | exact Or.inr (Or.inl rfl) | exact Or.inr (Or.inr rfl))) fa_nil)))
  (fj_fld G.f_Scheme_own_columns (pv 0) (fe_var (i := 1) rfl (by first | exact Or.inl rfl | exact Or.inr (Or.inl rfl) | exact Or.inr (Or.inr rfl)))
  (fj_fld G.f_Scheme_own_dependences (pv 0) (fe_ty bD_tup rfl G.n_tuple bo_tuple (fa_cons (fe_var (i := 2) rfl (by first | exact Or.inl rfl | exact Or.inr (Or.inl rfl) | exact Or.inr (Or.inr rfl))) fa_nil))
  fj_nil)))))
/-! Scheme.with_more -/
theorem sc_Scheme_with_more : FnScope ["self", "dependences"] ["self", "dependences"] (defScope s_Scheme_with_more) := C8.fnScope_by (by decide +kernel)
theorem ok_Scheme_with_more {f : Addr} {fd : FuncData} (G : Gt K mg) (F : Fun K "with_more" "Scheme.with_more" s_Scheme_with_more f fd) (c_k_Scheme_init_2 : MakD P w K mg base 6 "Scheme" 3 [] I_Scheme) (c_need_dependences : CalD P w K mg base 5 "need_dependences" 2 [] D_need_dependences) : FnOk P w K mg base CX0 8 f fd ["self", "dependences"] (spD ⟨K, mg⟩ 2 D_Scheme_with_more) :=
  have sc := sc_Scheme_with_more
  def_ok (k := 7) F sc (fun cdv A outer s H E hr => (fss_cons (fs_expr (fe_call c_need_dependences hr rfl (fa_cons (fe_fld G.f_Scheme_own_columns (fe_var (i := 0) rfl (by first | exact Or.inl rfl | exact Or.inr (Or.inl rfl) | exact Or.inr (Or.inr rfl)))) (fa_cons (fe_var (i := 1) rfl (by first | exact Or.inl rfl | exact Or.inr (Or.inl rfl) | exact Or.inr (Or.inr rfl))) fa_nil))))
  (fss_cons (fs_if (FC.ft (fc_data opD_gt (fe_op opD_add (fe_b bD_len rfl G.n_len bo_len (fa_cons (fe_fld G.f_Scheme_own_dependences (fe_var (i := 0) rfl (by first | exact Or.inl rfl | exact Or.inr (Or.inl rfl) | exact Or.inr (Or.inr rfl)))) fa_nil)) (fe_b bD_len rfl G.n_len bo_len (fa_cons (fe_var (i := 1) rfl (by first | exact Or.inl rfl | exact Or.inr (Or.inl rfl) | exact Or.inr (Or.inr rfl))) fa_nil))) (fe_gl G.g_MOST_DEPENDENCES rfl) rfl)) (fss_one fs_never) fss_nil)
  (fss_one (fs_ret (fe_make c_k_Scheme_init_2 hr rfl (fa_cons (fe_fld G.f_Scheme_own_columns (fe_var (i := 0) rfl (by first | exact Or.inl rfl | exact Or.inr (Or.inl rfl) | exact Or.inr (Or.inr rfl)))) (fa_cons (fe_star2 (fe_fld G.f_Scheme_own_dependences (fe_var (i := 0) rfl (by first | exact Or.inl rfl | exact Or.inr (Or.inl rfl) | exact Or.inr (Or.inr rfl)))) (fe_var (i := 1) rfl (by first | exact Or.inl rfl | exact Or.inr (Or.inl rfl) | exact Or.inr (Or.inr rfl)))) fa_nil))))))))
/-! sets_of -/
theorem sc_sets_of : FnScope ["columns", "found", "letter", "one"] ["columns"] (defScope s_sets_of) := C8.fnScope_by (by decide +kernel)
theorem ok_sets_of {f : Addr} {fd : FuncData} (G : Gt K mg) (F : Fun K "sets_of" "sets_of" s_sets_of f fd) {ca pa : Addr} (TB : LamX.TabB base mg ca pa) (hcd : ∀ oc od kV doc pm an cdv ct osl, K.lookup f = some ⟨oc, od, .func (PySem.W.fnOf "sets_of" "sets_of" (defArgs s_sets_of) (defBody s_sets_of) (defScope s_sets_of) .none kV doc pm an cdv ct), osl⟩ → cdv = .ref ca) (hmT : (pa, ("sets_of" : Str) ++ ".<locals>." ++ "<lambda>") ∈ Tabl.T) (hu : ∀ p ∈ Tabl.T, p.1 = pa → p.2 = ("sets_of" : Str) ++ ".<locals>." ++ "<lambda>") : FnOk P w K mg base CX0 5 f fd ["columns"] (spD ⟨K, mg⟩ 1 D_sets_of) :=
  have sc := sc_sets_of
  def_okT (k := 4) (ca := ca) F sc hcd (fun A outer s H E hr => have hcode : _ := rfl; (fss_cons (fs_set (i := 1) sc.nd rfl (by first | exact Or.inl rfl | exact Or.inr rfl) (fe_lst (fa_cons fe_str fa_nil)))
  (fss_cons (fs_for PassesOwn.never rfl (fi_val (fe_op opD_add (fe_var (i := 0) rfl (by first | exact Or.inl rfl | exact Or.inr (Or.inl rfl) | exact Or.inr (Or.inr rfl))) (fe_gl G.g_ROW rfl))) (fg_name (i := 2) sc.nd rfl (by first | exact Or.inl rfl | exact Or.inr rfl))
   (fss_one (fs_set (i := 1) sc.nd rfl (by first | exact Or.inl rfl | exact Or.inr rfl) (fe_op opD_add (fe_var (i := 1) rfl (by first | exact Or.inl rfl | exact Or.inr (Or.inl rfl) | exact Or.inr (Or.inr rfl))) (fe_lc rfl sc.nd (own := [("one", 3)]) (fi_val (fe_var (i := 1) rfl (by first | exact Or.inl rfl | exact Or.inr (Or.inl rfl) | exact Or.inr (Or.inr rfl)))) (blkOk_by (by show blkC ["columns", "found", "letter", "one"] (defScope s_sets_of) _ [("one", 3)] = true; decide +kernel)) (fun _ _ _ _ _ => (fg_name (i := 3) sc.nd rfl (by first | exact Or.inl rfl | exact Or.inr rfl))) (fun _ _ _ _ _ => fts_nil) (fun _ _ _ _ _ => (fe_op opD_add (fe_var (i := 3) rfl (by first | exact Or.inl rfl | exact Or.inr (Or.inl rfl) | exact Or.inr (Or.inr rfl))) (fe_var (i := 2) rfl (by first | exact Or.inl rfl | exact Or.inr (Or.inl rfl) | exact Or.inr (Or.inr rfl))))))))))
  (fss_one (fs_ret (fe_sortLam rfl G.n_sorted G.n_len hr TB hcode hmT hu (fe_var (i := 1) rfl (by first | exact Or.inl rfl | exact Or.inr (Or.inl rfl) | exact Or.inr (Or.inr rfl))) rfl (by decide +kernel) (fun _ _ _ _ _ => rfl) rfl rfl rfl (by decide +kernel) rfl rfl (by decide +kernel)))))))
/-! Scheme.closed_sets -/
theorem sc_Scheme_closed_sets : FnScope ["self", "one"] ["self"] (defScope s_Scheme_closed_sets) := C8.fnScope_by (by decide +kernel)
theorem ok_Scheme_closed_sets {f : Addr} {fd : FuncData} (G : Gt K mg) (F : Fun K "closed_sets" "Scheme.closed_sets" s_Scheme_closed_sets f fd) (c_sets_of : CalD P w K mg base 5 "sets_of" 1 [] D_sets_of) (c_m_Scheme_closure : MetD P w K mg base 5 "Scheme" "closure" 2 [] D_Scheme_closure) : FnOk P w K mg base CX0 6 f fd ["self"] (spD ⟨K, mg⟩ 1 D_Scheme_closed_sets) :=
  have sc := sc_Scheme_closed_sets
  def_ok (k := 5) F sc (fun cdv A outer s H E hr => (fss_one (fs_ret (fe_lc rfl sc.nd (own := [("one", 1)]) (fi_val (fe_call c_sets_of hr rfl (fa_cons (fe_fld G.f_Scheme_own_columns (fe_var (i := 0) rfl (by first | exact Or.inl rfl | exact Or.inr (Or.inl rfl) | exact Or.inr (Or.inr rfl)))) fa_nil))) (blkOk_by (by show blkC ["self", "one"] (defScope s_Scheme_closed_sets) _ [("one", 1)] = true; decide +kernel)) (fun _ _ _ _ _ => (fg_name (i := 1) sc.nd rfl (by first | exact Or.inl rfl | exact Or.inr rfl))) (fun _ _ _ _ _ => (fts_one (FC.ft (fc_data (opD_eq hr) (fe_meth c_m_Scheme_closure hr (fe_var (i := 0) rfl (by first | exact Or.inl rfl | exact Or.inr (Or.inl rfl) | exact Or.inr (Or.inr rfl))) (fa_cons (fe_var (i := 1) rfl (by first | exact Or.inl rfl | exact Or.inr (Or.inl rfl) | exact Or.inr (Or.inr rfl))) fa_nil)) (fe_var (i := 1) rfl (by first | exact Or.inl rfl | exact Or.inr (Or.inl rfl) | exact Or.inr (Or.inr rfl))) rfl)))) (fun _ _ _ _ _ => (fe_var (i := 1) rfl (by first | exact Or.inl rfl | exact Or.inr (Or.inl rfl) | exact Or.inr (Or.inr rfl))))))))
/-! Scheme.__eq__ -/
theorem sc_Scheme_eq : FnScope ["self", "other"] ["self", "other"] (defScope s_Scheme_eq) := C8.fnScope_by (by decide +kernel)
theorem ok_Scheme_eq {f : Addr} {fd : FuncData} (G : Gt K mg) (F : Fun K "__eq__" "Scheme.__eq__" s_Scheme_eq f fd) (c_m_Scheme_closed_sets : MetD P w K mg base 6 "Scheme" "closed_sets" 1 [] D_Scheme_closed_sets) : FnOk P w K mg base CX0 7 f fd ["self", "other"] (spD ⟨K, mg⟩ 2 D_Scheme_eq) :=
  have sc := sc_Scheme_eq
  def_ok (k := 6) F sc (fun cdv A outer s H E hr => (fss_cons (fs_if (ft_w (fw_or (ft_not (ft_val (fe_isiC G.i_Scheme rfl G.n_isinstance rfl (fe_var (i := 1) rfl (by first | exact Or.inl rfl | exact Or.inr (Or.inl rfl) | exact Or.inr (Or.inr rfl)))))) (fw_or1 (FC.ft (fc_data (opD_ne hr) (fe_fld G.f_Scheme_own_columns (fe_var (i := 0) rfl (by first | exact Or.inl rfl | exact Or.inr (Or.inl rfl) | exact Or.inr (Or.inr rfl)))) (fe_fld G.f_Scheme_own_columns (fe_var (i := 1) rfl (by first | exact Or.inl rfl | exact Or.inr (Or.inl rfl) | exact Or.inr (Or.inr rfl)))) rfl))))) (fss_one (fs_ret fe_bl)) fss_nil)
  (fss_one (fs_ret (FC.fe (fc_data (opD_eq hr) (fe_meth0 c_m_Scheme_closed_sets hr (fe_var (i := 0) rfl (by first | exact Or.inl rfl | exact Or.inr (Or.inl rfl) | exact Or.inr (Or.inr rfl)))) (fe_meth0 c_m_Scheme_closed_sets hr (fe_var (i := 1) rfl (by first | exact Or.inl rfl | exact Or.inr (Or.inl rfl) | exact Or.inr (Or.inr rfl)))) rfl))))))
/-! _law_common -/
theorem sc_law_common : FnScope ["_law_some", "_law_letters_here", "_law_one", "_law_each"] ["_law_some", "_law_letters_here"] (defScope s_law_common) := C8.fnScope_by (by decide +kernel)
theorem ok_law_common {f : Addr} {fd : FuncData} (G : Gt K mg) (F : Fun K "_law_common" "_law_common" s_law_common f fd) : FnOk P w K mg base CX0 2 f fd ["_law_some", "_law_letters_here"] (spD ⟨K, mg⟩ 2 D_law_common) :=
  have sc := sc_law_common
  def_ok (k := 1) F sc (fun cdv A outer s H E hr => (fss_one (fs_ret (fe_m1 PySem.F.slot_str_join PySem.F.type_str_join mD_join fe_str (fe_lc rfl sc.nd (own := [("_law_one", 2)]) (fi_val (fe_var (i := 1) rfl (by first | exact Or.inl rfl | exact Or.inr (Or.inl rfl) | exact Or.inr (Or.inr rfl)))) (blkOk_by (by show blkC ["_law_some", "_law_letters_here", "_law_one", "_law_each"] (defScope s_law_common) _ [("_law_one", 2)] = true; decide +kernel)) (fun _ _ _ _ _ => (fg_name (i := 2) sc.nd rfl (by first | exact Or.inl rfl | exact Or.inr rfl))) (fun _ _ _ _ _ => (fts_one (FC.ft (fc_data (opD_eq hr) (fe_lc rfl sc.nd (own := [("_law_each", 3)]) (fi_val (fe_var (i := 0) rfl (by first | exact Or.inl rfl | exact Or.inr (Or.inl rfl) | exact Or.inr (Or.inr rfl)))) (blkOk_by (by rfl)) (fun _ _ _ _ _ => (fg_name (i := 3) sc.nd rfl (by first | exact Or.inl rfl | exact Or.inr rfl))) (fun _ _ _ _ _ => (fts_one (FC.ft (fc_data opD_notIn (fe_var (i := 2) rfl (by first | exact Or.inl rfl | exact Or.inr (Or.inl rfl) | exact Or.inr (Or.inr rfl))) (fe_var (i := 3) rfl (by first | exact Or.inl rfl | exact Or.inr (Or.inl rfl) | exact Or.inr (Or.inr rfl))) rfl)))) (fun _ _ _ _ _ => (fe_var (i := 3) rfl (by first | exact Or.inl rfl | exact Or.inr (Or.inl rfl) | exact Or.inr (Or.inr rfl))))) (fe_lst fa_nil) rfl)))) (fun _ _ _ _ _ => (fe_var (i := 2) rfl (by first | exact Or.inl rfl | exact Or.inr (Or.inl rfl) | exact Or.inr (Or.inr rfl)))))))))
/-! is_number -/
theorem sc_is_number : FnScope ["thing"] ["thing"] (defScope s_is_number) := C8.fnScope_by (by decide +kernel)
theorem ok_is_number {f : Addr} {fd : FuncData} (G : Gt K mg) (F : Fun K "is_number" "is_number" s_is_number f fd) : FnOk P w K mg base CX0 2 f fd ["thing"] (spD ⟨K, mg⟩ 1 D_is_number) :=
  have sc := sc_is_number
  def_ok (k := 1) F sc (fun cdv A outer s H E hr => (fss_one (fs_ret (fe_and (fe_isi rfl G.n_isinstance (pe_bltn (v := .ty "int") rfl G.n_int PyProof.Rows.boot_int rfl) (.ty _) G.i_int (fe_var (i := 0) rfl (by first | exact Or.inl rfl | exact Or.inr (Or.inl rfl) | exact Or.inr (Or.inr rfl)))) (fe_one (fe_not (fe_isi rfl G.n_isinstance (pe_bltn (v := .ty "bool") rfl G.n_bool PyProof.Rows.boot_bool rfl) (.ty _) G.i_bool (fe_var (i := 0) rfl (by first | exact Or.inl rfl | exact Or.inr (Or.inl rfl) | exact Or.inr (Or.inr rfl))))))))))
/-! is_row -/
theorem sc_is_row : FnScope ["columns", "thing", "key", "weight"] ["columns", "thing"] (defScope s_is_row) := C8.fnScope_by (by decide +kernel)
theorem ok_is_row {f : Addr} {fd : FuncData} (G : Gt K mg) (F : Fun K "is_row" "is_row" s_is_row f fd) (c_is_number : CalD P w K mg base 2 "is_number" 1 [] D_is_number) : FnOk P w K mg base CX0 3 f fd ["columns", "thing"] (spD ⟨K, mg⟩ 2 D_is_row) :=
  have sc := sc_is_row
  def_ok (k := 2) F sc (fun cdv A outer s H E hr => (fss_cons (fs_if (ft_w (fw_or (ft_not (ft_val (fe_isi rfl G.n_isinstance (pe_bltn (v := .ty "tuple") rfl G.n_tuple PyProof.Rows.boot_tuple rfl) (.ty _) G.i_tuple (fe_var (i := 1) rfl (by first | exact Or.inl rfl | exact Or.inr (Or.inl rfl) | exact Or.inr (Or.inr rfl)))))) (fw_or (FC.ft (fc_data (opD_ne hr) (fe_b bD_len rfl G.n_len bo_len (fa_cons (fe_var (i := 1) rfl (by first | exact Or.inl rfl | exact Or.inr (Or.inl rfl) | exact Or.inr (Or.inr rfl))) fa_nil)) fe_int rfl)) (fw_or1 (ft_not (ft_val (fe_isi rfl G.n_isinstance (pe_bltn (v := .ty "tuple") rfl G.n_tuple PyProof.Rows.boot_tuple rfl) (.ty _) G.i_tuple (fe_ix ixD_ok (fe_var (i := 1) rfl (by first | exact Or.inl rfl | exact Or.inr (Or.inl rfl) | exact Or.inr (Or.inr rfl))) fe_int (fun _ _ => rfl))))))))) (fss_one (fs_ret fe_bl)) fss_nil)
  (fss_cons (fs_if (ft_w (fw_or (FC.ft (fc_data (opD_ne hr) (fe_b bD_len rfl G.n_len bo_len (fa_cons (fe_ix ixD_ok (fe_var (i := 1) rfl (by first | exact Or.inl rfl | exact Or.inr (Or.inl rfl) | exact Or.inr (Or.inr rfl))) fe_int (fun _ _ => rfl)) fa_nil)) (fe_b bD_len rfl G.n_len bo_len (fa_cons (fe_var (i := 0) rfl (by first | exact Or.inl rfl | exact Or.inr (Or.inl rfl) | exact Or.inr (Or.inr rfl))) fa_nil)) rfl)) (fw_or1 (ft_not (ft_val (fe_b (bD_all rfl) rfl G.n_all bo_all (fa_cons (fe_lc rfl sc.nd (own := [("key", 2)]) (fi_val (fe_ix ixD_ok (fe_var (i := 1) rfl (by first | exact Or.inl rfl | exact Or.inr (Or.inl rfl) | exact Or.inr (Or.inr rfl))) fe_int (fun _ _ => rfl))) (blkOk_by (by show blkC ["columns", "thing", "key", "weight"] (defScope s_is_row) _ [("key", 2)] = true; decide +kernel)) (fun _ _ _ _ _ => (fg_name (i := 2) sc.nd rfl (by first | exact Or.inl rfl | exact Or.inr rfl))) (fun _ _ _ _ _ => fts_nil) (fun _ _ _ _ _ => (fe_and (fe_call c_is_number hr rfl (fa_cons (fe_var (i := 2) rfl (by first | exact Or.inl rfl | exact Or.inr (Or.inl rfl) | exact Or.inr (Or.inr rfl))) fa_nil)) (fe_one (FC.fe (fc_data opD_ge (fe_var (i := 2) rfl (by first | exact Or.inl rfl | exact Or.inr (Or.inl rfl) | exact Or.inr (Or.inr rfl))) fe_int rfl)))))) fa_nil))))))) (fss_one (fs_ret fe_bl)) fss_nil)
  (fss_one (fs_ret (fe_and (fe_call c_is_number hr rfl (fa_cons (fe_ix ixD_ok (fe_var (i := 1) rfl (by first | exact Or.inl rfl | exact Or.inr (Or.inl rfl) | exact Or.inr (Or.inr rfl))) fe_int (fun _ _ => rfl)) fa_nil)) (fe_one (fe_b (bD_all rfl) rfl G.n_all bo_all (fa_cons (fe_lc rfl sc.nd (own := [("weight", 3)]) (fi_val (fe_sl (fe_var (i := 1) rfl (by first | exact Or.inl rfl | exact Or.inr (Or.inl rfl) | exact Or.inr (Or.inr rfl))) (fo_some fe_int) fo_none)) (blkOk_by (by show blkC ["columns", "thing", "key", "weight"] (defScope s_is_row) _ [("weight", 3)] = true; decide +kernel)) (fun _ _ _ _ _ => (fg_name (i := 3) sc.nd rfl (by first | exact Or.inl rfl | exact Or.inr rfl))) (fun _ _ _ _ _ => fts_nil) (fun _ _ _ _ _ => (fe_and (fe_call c_is_number hr rfl (fa_cons (fe_var (i := 3) rfl (by first | exact Or.inl rfl | exact Or.inr (Or.inl rfl) | exact Or.inr (Or.inr rfl))) fa_nil)) (fe_one (FC.fe (fc_data opD_ge (fe_var (i := 3) rfl (by first | exact Or.inl rfl | exact Or.inr (Or.inl rfl) | exact Or.inr (Or.inr rfl))) fe_int rfl)))))) fa_nil)))))))))
/-! need_rows -/
theorem sc_need_rows : FnScope ["columns", "rows", "at", "row"] ["columns", "rows"] (defScope s_need_rows) := C8.fnScope_by (by decide +kernel)
theorem ok_need_rows {f : Addr} {fd : FuncData} (G : Gt K mg) (F : Fun K "need_rows" "need_rows" s_need_rows f fd) (c_is_row : CalD P w K mg base 3 "is_row" 2 [] D_is_row) : FnOk P w K mg base CX0 4 f fd ["columns", "rows"] (spD ⟨K, mg⟩ 2 D_need_rows) :=
  have sc := sc_need_rows
  def_ok (k := 3) F sc (fun cdv A outer s H E hr => (fss_cons (fs_if (ft_not (ft_val (fe_isiT rfl G.n_isinstance (pks_cons (pe_bltn (v := .ty "list") rfl G.n_list PyProof.Rows.boot_list rfl) (pks_cons (pe_bltn (v := .ty "tuple") rfl G.n_tuple PyProof.Rows.boot_tuple rfl) pks_nil)) (by decide) (.cons (.ty _) (.cons (.ty _) .nil)) G.i_list_tuple (fe_var (i := 1) rfl (by first | exact Or.inl rfl | exact Or.inr (Or.inl rfl) | exact Or.inr (Or.inr rfl)))))) (fss_one fs_never) fss_nil)
  (fss_one (fs_for PassesOwn.never rfl (fi_enum rfl G.n_enumerate (fe_var (i := 1) rfl (by first | exact Or.inl rfl | exact Or.inr (Or.inl rfl) | exact Or.inr (Or.inr rfl)))) (fg_tup rfl (fgs_cons (fg_name (i := 2) sc.nd rfl (by first | exact Or.inl rfl | exact Or.inr rfl)) (fgs_cons (fg_name (i := 3) sc.nd rfl (by first | exact Or.inl rfl | exact Or.inr rfl)) fgs_nil)) (n := 2) (hg := (gCons_len (gCons_len gNil_len))))
   (fss_one (fs_if (ft_not (ft_val (fe_call c_is_row hr rfl (fa_cons (fe_var (i := 0) rfl (by first | exact Or.inl rfl | exact Or.inr (Or.inl rfl) | exact Or.inr (Or.inr rfl))) (fa_cons (fe_var (i := 3) rfl (by first | exact Or.inl rfl | exact Or.inr (Or.inl rfl) | exact Or.inr (Or.inr rfl))) fa_nil))))) (fss_one fs_never) fss_nil))))))
/-! Table.__init__ -/
theorem sc_Table_init : FnScope ["self", "columns", "rows"] ["self", "columns", "rows"] (defScope s_Table_init) := C8.fnScope_by (by decide +kernel)
theorem ok_Table_init {f : Addr} {fd : FuncData} {dvs : List V} {kws : List (Str × V)} (G : Gt K mg) (F : FunD K "__init__" "Table.__init__" (defArgs s_Table_init) (defBody s_Table_init) (defScope s_Table_init) dvs kws f fd) (c_need_rows : CalD P w K mg base 4 "need_rows" 2 [] D_need_rows) (c_need_columns : CalD P w K mg base 4 "need_columns" 1 [] D_need_columns) : FnOk P w K mg base CX0 5 f fd ["self", "columns", "rows"] (spI ⟨K, mg⟩ 3 "Table" I_Table) :=
  have sc := sc_Table_init
  init_ok (k := 4) F sc (fun cdv A outer s H E hr => (fj_expr (fe_call c_need_columns hr rfl (fa_cons (fe_var (i := 1) rfl (by first | exact Or.inl rfl | exact Or.inr (Or.inl rfl) | exact Or.inr (Or.inr rfl))) fa_nil))
  (fj_expr (fe_call c_need_rows hr rfl (fa_cons (fe_var (i := 1) rfl (by first | exact Or.inl rfl | exact Or.inr (Or.inl rfl) | exact Or.inr (Or.inr rfl))) (fa_cons (fe_var (i := 2) rfl (by first | exact Or.inl rfl | exact Or.inr (Or.inl rfl) | exact Or.inr (Or.inr rfl))) fa_nil)))
  (fj_fld G.f_Table_own_columns (pv 0) (fe_var (i := 1) rfl (by first | exact Or.inl rfl | exact Or.inr (Or.inl rfl) | exact Or.inr (Or.inr rfl)))
  (fj_fld G.f_Table_own_rows (pv 0) (fe_ty bD_tup rfl G.n_tuple bo_tuple (fa_cons (fe_var (i := 2) rfl (by first | exact Or.inl rfl | exact Or.inr (Or.inl rfl) | exact Or.inr (Or.inr rfl))) fa_nil))
  fj_nil)))))
/-! _law_named -/
theorem sc_law_named : FnScope ["_law_plan", "_law_some", "_law_chosen", "_law_at", "_law_keys", "_law_found", "_law_letter"] ["_law_plan", "_law_some", "_law_chosen", "_law_at"] (defScope s_law_named) := C8.fnScope_by (by decide +kernel)
theorem ok_law_named {f : Addr} {fd : FuncData} (G : Gt K mg) (F : Fun K "_law_named" "_law_named" s_law_named f fd) : FnOk P w K mg base CX0 2 f fd ["_law_plan", "_law_some", "_law_chosen", "_law_at"] (spD ⟨K, mg⟩ 4 D_law_named) :=
  have sc := sc_law_named
  def_ok (k := 1) F sc (fun cdv A outer s H E hr => (fss_cons (fs_set (i := 4) sc.nd rfl (by first | exact Or.inl rfl | exact Or.inr rfl) (fe_ix ixD_ok (fe_ix ixD_ok (fe_var (i := 1) rfl (by first | exact Or.inl rfl | exact Or.inr (Or.inl rfl) | exact Or.inr (Or.inr rfl))) (fe_var (i := 3) rfl (by first | exact Or.inl rfl | exact Or.inr (Or.inl rfl) | exact Or.inr (Or.inr rfl))) (fun _ _ => rfl)) fe_int (fun _ _ => rfl)))
  (fss_cons (fs_setLc rfl sc.nd (i := 5) rfl rfl rfl (own := [("_law_letter", 6)]) (fi_val (fe_var (i := 2) rfl (by first | exact Or.inl rfl | exact Or.inr (Or.inl rfl) | exact Or.inr (Or.inr rfl)))) (blkOk_by (by show blkC ["_law_plan", "_law_some", "_law_chosen", "_law_at", "_law_keys", "_law_found", "_law_letter"] (defScope s_law_named) _ [("_law_letter", 6)] = true; decide +kernel)) (fun _ _ _ _ _ => (fg_name (i := 6) sc.nd rfl (by first | exact Or.inl rfl | exact Or.inr rfl))) (fun _ _ _ _ _ => (fts_one (FC.ft (fc_data (opD_ne hr) (fe_var (i := 6) rfl (by first | exact Or.inl rfl | exact Or.inr (Or.inl rfl) | exact Or.inr (Or.inr rfl))) fe_str rfl)))) (fun _ _ _ _ _ => (fe_ix ixD_ok (fe_var (i := 4) rfl (by first | exact Or.inl rfl | exact Or.inr (Or.inl rfl) | exact Or.inr (Or.inr rfl))) (fe_m1 PySem.F.slot_str_index PySem.F.type_str_index mD_index (fe_ix ixD_ok (fe_var (i := 0) rfl (by first | exact Or.inl rfl | exact Or.inr (Or.inl rfl) | exact Or.inr (Or.inr rfl))) fe_int (fun _ _ => rfl)) (fe_var (i := 6) rfl (by first | exact Or.inl rfl | exact Or.inr (Or.inl rfl) | exact Or.inr (Or.inr rfl)))) (fun _ _ => rfl))))
  (fss_one (fs_ret (fe_ty bD_tup rfl G.n_tuple bo_tuple (fa_cons (fe_op opD_add (fe_var (i := 5) rfl (by first | exact Or.inl rfl | exact Or.inr (Or.inl rfl) | exact Or.inr (Or.inr rfl))) (fe_op opD_rep (fe_lst (fa_cons (fe_var (i := 3) rfl (by first | exact Or.inl rfl | exact Or.inr (Or.inl rfl) | exact Or.inr (Or.inr rfl))) fa_nil)) (fe_ty bD_int rfl G.n_int bo_int (fa_cons (FC.fe (fc_data opD_in fe_str (fe_var (i := 2) rfl (by first | exact Or.inl rfl | exact Or.inr (Or.inl rfl) | exact Or.inr (Or.inr rfl))) rfl)) fa_nil)))) fa_nil)))))))
/-! _law_broken -/
theorem sc_law_broken : FnScope ["_law_plan", "_law_some", "_law_at", "_law_tie", "_law_seen", "_law_spot", "_law_name", "_law_worth"] ["_law_plan", "_law_some"] (defScope s_law_broken) := C8.fnScope_by (by decide +kernel)
theorem ok_law_broken {f : Addr} {fd : FuncData} (G : Gt K mg) (F : Fun K "_law_broken" "_law_broken" s_law_broken f fd) (c_law_named : CalD P w K mg base 2 "_law_named" 4 [] D_law_named) : FnOk P w K mg base CX0 3 f fd ["_law_plan", "_law_some"] (spD ⟨K, mg⟩ 2 D_law_broken) :=
  have sc := sc_law_broken
  def_ok (k := 2) F sc (fun cdv A outer s H E hr => (fss_cons (fs_for PassesOwn.never rfl (fi_enum rfl G.n_enumerate (fe_ix ixD_ok (fe_var (i := 0) rfl (by first | exact Or.inl rfl | exact Or.inr (Or.inl rfl) | exact Or.inr (Or.inr rfl))) fe_int (fun _ _ => rfl))) (fg_tup rfl (fgs_cons (fg_name (i := 2) sc.nd rfl (by first | exact Or.inl rfl | exact Or.inr rfl)) (fgs_cons (fg_name (i := 3) sc.nd rfl (by first | exact Or.inl rfl | exact Or.inr rfl)) fgs_nil)) (n := 2) (hg := (gCons_len (gCons_len gNil_len))))
   (fss_cons (fs_set (i := 4) sc.nd rfl (by first | exact Or.inl rfl | exact Or.inr rfl) fe_dit0)
  (fss_one (fs_for PassesOwn.never rfl (fi_range1 rfl G.n_range (fa_cons (fe_b bD_len rfl G.n_len bo_len (fa_cons (fe_var (i := 1) rfl (by first | exact Or.inl rfl | exact Or.inr (Or.inl rfl) | exact Or.inr (Or.inr rfl))) fa_nil)) fa_nil)) (fg_name (i := 5) sc.nd rfl (by first | exact Or.inl rfl | exact Or.inr rfl))
   (fss_cons (fs_par2 rfl sc.nd (i := 6) (j := 7) rfl rfl (by decide) rfl rfl (fp_cons (fe_call c_law_named hr rfl (fa_cons (fe_var (i := 0) rfl (by first | exact Or.inl rfl | exact Or.inr (Or.inl rfl) | exact Or.inr (Or.inr rfl))) (fa_cons (fe_var (i := 1) rfl (by first | exact Or.inl rfl | exact Or.inr (Or.inl rfl) | exact Or.inr (Or.inr rfl))) (fa_cons (fe_ix ixD_ok (fe_var (i := 3) rfl (by first | exact Or.inl rfl | exact Or.inr (Or.inl rfl) | exact Or.inr (Or.inr rfl))) fe_int (fun _ _ => rfl)) (fa_cons (fe_var (i := 5) rfl (by first | exact Or.inl rfl | exact Or.inr (Or.inl rfl) | exact Or.inr (Or.inr rfl))) fa_nil))))) (fp_cons (fe_call c_law_named hr rfl (fa_cons (fe_var (i := 0) rfl (by first | exact Or.inl rfl | exact Or.inr (Or.inl rfl) | exact Or.inr (Or.inr rfl))) (fa_cons (fe_var (i := 1) rfl (by first | exact Or.inl rfl | exact Or.inr (Or.inl rfl) | exact Or.inr (Or.inr rfl))) (fa_cons (fe_ix ixD_ok (fe_var (i := 3) rfl (by first | exact Or.inl rfl | exact Or.inr (Or.inl rfl) | exact Or.inr (Or.inr rfl))) fe_int (fun _ _ => rfl)) (fa_cons (fe_var (i := 5) rfl (by first | exact Or.inl rfl | exact Or.inr (Or.inl rfl) | exact Or.inr (Or.inr rfl))) fa_nil))))) fp_nil)) rfl)
  (fss_cons (fs_if (FC.ft (fc_data (opD_ne hr) (fe_dget2 hr (fe_var (i := 4) rfl (by first | exact Or.inl rfl | exact Or.inr (Or.inl rfl) | exact Or.inr (Or.inr rfl))) (fe_var (i := 6) rfl (by first | exact Or.inl rfl | exact Or.inr (Or.inl rfl) | exact Or.inr (Or.inr rfl))) (fe_var (i := 7) rfl (by first | exact Or.inl rfl | exact Or.inr (Or.inl rfl) | exact Or.inr (Or.inr rfl))) ⟨rfl, rfl, rfl, rfl⟩) (fe_var (i := 7) rfl (by first | exact Or.inl rfl | exact Or.inr (Or.inl rfl) | exact Or.inr (Or.inr rfl))) rfl)) (fss_one (fs_ret (fe_var (i := 2) rfl (by first | exact Or.inl rfl | exact Or.inr (Or.inl rfl) | exact Or.inr (Or.inr rfl))))) fss_nil)
  (fss_one (fs_dput hr (pv 4) (fe_var (i := 6) rfl (by first | exact Or.inl rfl | exact Or.inr (Or.inl rfl) | exact Or.inr (Or.inr rfl))) (fe_var (i := 7) rfl (by first | exact Or.inl rfl | exact Or.inr (Or.inl rfl) | exact Or.inr (Or.inr rfl)))))))))))
  (fss_one (fs_ret fe_non))))
/-! _law_row -/
theorem sc_law_row : FnScope ["_law_draw", "_law_keys", "_law_kind", "_law_size", "_law_worth"] ["_law_draw", "_law_keys", "_law_kind"] (defScope s_law_row) := C8.fnScope_by (by decide +kernel)
theorem ok_law_row {f : Addr} {fd : FuncData} (G : Gt K mg) (F : Fun K "_law_row" "_law_row" s_law_row f fd) (c_law_take : CalD P w K mg base 3 "_law_take" 2 [] D_law_take) (c_law_pick : CalD P w K mg base 4 "_law_pick" 2 [] D_law_pick) : FnOk P w K mg base CX0 5 f fd ["_law_draw", "_law_keys", "_law_kind"] (spD ⟨K, mg⟩ 3 D_law_row) :=
  have sc := sc_law_row
  def_ok (k := 4) F sc (fun cdv A outer s H E hr => (fss_cons (fs_set (i := 3) sc.nd rfl (by first | exact Or.inl rfl | exact Or.inr rfl) (fe_ifExp (FC.ft (fc_data (opD_eq hr) (fe_var (i := 2) rfl (by first | exact Or.inl rfl | exact Or.inr (Or.inl rfl) | exact Or.inr (Or.inr rfl))) fe_str rfl)) (fe_call c_law_pick hr rfl (fa_cons (fe_var (i := 0) rfl (by first | exact Or.inl rfl | exact Or.inr (Or.inl rfl) | exact Or.inr (Or.inr rfl))) (fa_cons (fe_lst (fa_cons fe_int (fa_cons fe_int (fa_cons fe_int (fa_cons (fe_op opD_pow fe_int fe_int) fa_nil))))) fa_nil))) fe_int))
  (fss_cons (fs_set (i := 4) sc.nd rfl (by first | exact Or.inl rfl | exact Or.inr rfl) (fe_op opD_sub (fe_call c_law_take hr rfl (fa_cons (fe_var (i := 0) rfl (by first | exact Or.inl rfl | exact Or.inr (Or.inl rfl) | exact Or.inr (Or.inr rfl))) (fa_cons (fe_op opD_add (fe_op opD_mul fe_int (fe_var (i := 3) rfl (by first | exact Or.inl rfl | exact Or.inr (Or.inl rfl) | exact Or.inr (Or.inr rfl)))) fe_int) fa_nil))) (fe_var (i := 3) rfl (by first | exact Or.inl rfl | exact Or.inr (Or.inl rfl) | exact Or.inr (Or.inr rfl)))))
  (fss_one (fs_ret (fe_tup (fa_cons (fe_var (i := 1) rfl (by first | exact Or.inl rfl | exact Or.inr (Or.inl rfl) | exact Or.inr (Or.inr rfl))) (fa_cons (fe_var (i := 4) rfl (by first | exact Or.inl rfl | exact Or.inr (Or.inl rfl) | exact Or.inr (Or.inr rfl))) (fa_cons (fe_op opD_add fe_int (fe_call c_law_take hr rfl (fa_cons (fe_var (i := 0) rfl (by first | exact Or.inl rfl | exact Or.inr (Or.inl rfl) | exact Or.inr (Or.inr rfl))) (fa_cons (fe_var (i := 3) rfl (by first | exact Or.inl rfl | exact Or.inr (Or.inl rfl) | exact Or.inr (Or.inr rfl))) fa_nil)))) (fa_cons (fe_op opD_add fe_int (fe_call c_law_take hr rfl (fa_cons (fe_var (i := 0) rfl (by first | exact Or.inl rfl | exact Or.inr (Or.inl rfl) | exact Or.inr (Or.inr rfl))) (fa_cons (fe_var (i := 3) rfl (by first | exact Or.inl rfl | exact Or.inr (Or.inl rfl) | exact Or.inr (Or.inr rfl))) fa_nil)))) fa_nil))))))))))
/-! _law_fitted -/
theorem sc_law_fitted : FnScope ["_law_plan", "_law_some", "_law_keys", "_law_found", "_law_turn", "_law_lower", "_law_letter", "_law_one", "_law_tie", "_law_spots", "_law_at", "_law_each", "_law_spot"] ["_law_plan", "_law_some", "_law_keys"] (defScope s_law_fitted) := C8.fnScope_by (by decide +kernel)
theorem ok_law_fitted {f : Addr} {fd : FuncData} (G : Gt K mg) (F : Fun K "_law_fitted" "_law_fitted" s_law_fitted f fd) : FnOk P w K mg base CX0 2 f fd ["_law_plan", "_law_some", "_law_keys"] (spD ⟨K, mg⟩ 3 D_law_fitted) :=
  have sc := sc_law_fitted
  def_ok (k := 1) F sc (fun cdv A outer s H E hr => (fss_cons (fs_set (i := 3) sc.nd rfl (by first | exact Or.inl rfl | exact Or.inr rfl) (fe_ty (bD_list rfl) rfl G.n_list bo_list (fa_cons (fe_var (i := 2) rfl (by first | exact Or.inl rfl | exact Or.inr (Or.inl rfl) | exact Or.inr (Or.inr rfl))) fa_nil)))
  (fss_cons (fs_for PassesOwn.never rfl (fi_range1 rfl G.n_range (fa_cons fe_int fa_nil)) (fg_name (i := 4) sc.nd rfl (by first | exact Or.inl rfl | exact Or.inr rfl))
   (fss_one (fs_for PassesOwn.never rfl (fi_val (fe_lc rfl sc.nd (own := [("_law_tie", 8)]) (fi_val (fe_ix ixD_ok (fe_var (i := 0) rfl (by first | exact Or.inl rfl | exact Or.inr (Or.inl rfl) | exact Or.inr (Or.inr rfl))) fe_int (fun _ _ => rfl))) (blkOk_by (by show blkC ["_law_plan", "_law_some", "_law_keys", "_law_found", "_law_turn", "_law_lower", "_law_letter", "_law_one", "_law_tie", "_law_spots", "_law_at", "_law_each", "_law_spot"] (defScope s_law_fitted) _ [("_law_tie", 8)] = true; decide +kernel)) (fun _ _ _ _ _ => (fg_name (i := 8) sc.nd rfl (by first | exact Or.inl rfl | exact Or.inr rfl))) (fun _ _ _ _ _ => (fts_one (FC.ft (fc_data opD_notIn fe_str (fe_op opD_add (fe_ix ixD_ok (fe_var (i := 8) rfl (by first | exact Or.inl rfl | exact Or.inr (Or.inl rfl) | exact Or.inr (Or.inr rfl))) fe_int (fun _ _ => rfl)) (fe_ix ixD_ok (fe_var (i := 8) rfl (by first | exact Or.inl rfl | exact Or.inr (Or.inl rfl) | exact Or.inr (Or.inr rfl))) fe_int (fun _ _ => rfl))) rfl)))) (fun _ _ _ _ _ => (fe_var (i := 8) rfl (by first | exact Or.inl rfl | exact Or.inr (Or.inl rfl) | exact Or.inr (Or.inr rfl)))))) (fg_tup rfl (fgs_cons (fg_name (i := 5) sc.nd rfl (by first | exact Or.inl rfl | exact Or.inr rfl)) (fgs_cons (fg_name (i := 6) sc.nd rfl (by first | exact Or.inl rfl | exact Or.inr rfl)) fgs_nil)) (n := 2) (hg := (gCons_len (gCons_len gNil_len))))
   (fss_cons (fs_par2 rfl sc.nd (i := 9) (j := 10) rfl rfl (by decide) rfl rfl (fp_cons (fe_lc rfl sc.nd (own := [("_law_each", 11)]) (fi_val (fe_var (i := 5) rfl (by first | exact Or.inl rfl | exact Or.inr (Or.inl rfl) | exact Or.inr (Or.inr rfl)))) (blkOk_by (by show blkC ["_law_plan", "_law_some", "_law_keys", "_law_found", "_law_turn", "_law_lower", "_law_letter", "_law_one", "_law_tie", "_law_spots", "_law_at", "_law_each", "_law_spot"] (defScope s_law_fitted) _ [("_law_each", 11)] = true; decide +kernel)) (fun _ _ _ _ _ => (fg_name (i := 11) sc.nd rfl (by first | exact Or.inl rfl | exact Or.inr rfl))) (fun _ _ _ _ _ => fts_nil) (fun _ _ _ _ _ => (fe_m1 PySem.F.slot_str_index PySem.F.type_str_index mD_index (fe_ix ixD_ok (fe_var (i := 0) rfl (by first | exact Or.inl rfl | exact Or.inr (Or.inl rfl) | exact Or.inr (Or.inr rfl))) fe_int (fun _ _ => rfl)) (fe_var (i := 11) rfl (by first | exact Or.inl rfl | exact Or.inr (Or.inl rfl) | exact Or.inr (Or.inr rfl)))))) (fp_cons (fe_m1 PySem.F.slot_str_index PySem.F.type_str_index mD_index (fe_ix ixD_ok (fe_var (i := 0) rfl (by first | exact Or.inl rfl | exact Or.inr (Or.inl rfl) | exact Or.inr (Or.inr rfl))) fe_int (fun _ _ => rfl)) (fe_var (i := 6) rfl (by first | exact Or.inl rfl | exact Or.inr (Or.inl rfl) | exact Or.inr (Or.inr rfl)))) fp_nil)) rfl)
  (fss_one (fs_for PassesOwn.never rfl (fi_val (fe_var (i := 1) rfl (by first | exact Or.inl rfl | exact Or.inr (Or.inl rfl) | exact Or.inr (Or.inr rfl)))) (fg_name (i := 7) sc.nd rfl (by first | exact Or.inl rfl | exact Or.inr rfl))
   (fss_one (fs_if (FC.ft (fc_data (opD_eq hr) (fe_lc rfl sc.nd (own := [("_law_spot", 12)]) (fi_val (fe_var (i := 9) rfl (by first | exact Or.inl rfl | exact Or.inr (Or.inl rfl) | exact Or.inr (Or.inr rfl)))) (blkOk_by (by show blkC ["_law_plan", "_law_some", "_law_keys", "_law_found", "_law_turn", "_law_lower", "_law_letter", "_law_one", "_law_tie", "_law_spots", "_law_at", "_law_each", "_law_spot"] (defScope s_law_fitted) _ [("_law_spot", 12)] = true; decide +kernel)) (fun _ _ _ _ _ => (fg_name (i := 12) sc.nd rfl (by first | exact Or.inl rfl | exact Or.inr rfl))) (fun _ _ _ _ _ => (fts_one (FC.ft (fc_data (opD_ne hr) (fe_ix ixD_ok (fe_ix ixD_ok (fe_var (i := 7) rfl (by first | exact Or.inl rfl | exact Or.inr (Or.inl rfl) | exact Or.inr (Or.inr rfl))) fe_int (fun _ _ => rfl)) (fe_var (i := 12) rfl (by first | exact Or.inl rfl | exact Or.inr (Or.inl rfl) | exact Or.inr (Or.inr rfl))) (fun _ _ => rfl)) (fe_ix ixD_ok (fe_var (i := 3) rfl (by first | exact Or.inl rfl | exact Or.inr (Or.inl rfl) | exact Or.inr (Or.inr rfl))) (fe_var (i := 12) rfl (by first | exact Or.inl rfl | exact Or.inr (Or.inl rfl) | exact Or.inr (Or.inr rfl))) (fun _ _ => rfl)) rfl)))) (fun _ _ _ _ _ => (fe_var (i := 12) rfl (by first | exact Or.inl rfl | exact Or.inr (Or.inl rfl) | exact Or.inr (Or.inr rfl))))) (fe_lst fa_nil) rfl)) (fss_one (fs_lput (pv 3) (fe_var (i := 10) rfl (by first | exact Or.inl rfl | exact Or.inr (Or.inl rfl) | exact Or.inr (Or.inr rfl))) (fe_ix ixD_ok (fe_ix ixD_ok (fe_var (i := 7) rfl (by first | exact Or.inl rfl | exact Or.inr (Or.inl rfl) | exact Or.inr (Or.inr rfl))) fe_int (fun _ _ => rfl)) (fe_var (i := 10) rfl (by first | exact Or.inl rfl | exact Or.inr (Or.inl rfl) | exact Or.inr (Or.inr rfl))) (fun _ _ => rfl)))) fss_nil))))))))
  (fss_one (fs_ret (fe_ty bD_tup rfl G.n_tuple bo_tuple (fa_cons (fe_var (i := 3) rfl (by first | exact Or.inl rfl | exact Or.inr (Or.inl rfl) | exact Or.inr (Or.inr rfl))) fa_nil)))))))
/-! _law_rows -/
theorem sc_law_rows : FnScope ["_law_draw", "_law_plan", "_law_most", "_law_kind", "_law_found", "_law_top", "_law_turn", "_law_keys", "_law_more", "_law_letter"] ["_law_draw", "_law_plan", "_law_most", "_law_kind"] (defScope s_law_rows) := C8.fnScope_by (by decide +kernel)
theorem ok_law_rows {f : Addr} {fd : FuncData} (G : Gt K mg) (F : Fun K "_law_rows" "_law_rows" s_law_rows f fd) (c_law_take : CalD P w K mg base 3 "_law_take" 2 [] D_law_take) (c_law_broken : CalD P w K mg base 3 "_law_broken" 2 [] D_law_broken) (c_law_row : CalD P w K mg base 5 "_law_row" 3 [] D_law_row) (c_law_fitted : CalD P w K mg base 2 "_law_fitted" 3 [] D_law_fitted) (c_law_pick : CalD P w K mg base 4 "_law_pick" 2 [] D_law_pick) : FnOk P w K mg base CX0 6 f fd ["_law_draw", "_law_plan", "_law_most", "_law_kind"] (spD ⟨K, mg⟩ 4 D_law_rows) :=
  have sc := sc_law_rows
  def_ok (k := 5) F sc (fun cdv A outer s H E hr => (fss_cons (fs_asg (fe_tup (fa_cons (fe_lst fa_nil) (fa_cons (fe_call c_law_pick hr rfl (fa_cons (fe_var (i := 0) rfl (by first | exact Or.inl rfl | exact Or.inr (Or.inl rfl) | exact Or.inr (Or.inr rfl))) (fa_cons (fe_lst (fa_cons fe_int (fa_cons fe_int (fa_cons fe_int (fa_cons fe_int fa_nil))))) fa_nil))) fa_nil))) (fg_tup rfl (fgs_cons (fg_name (i := 4) sc.nd rfl (by first | exact Or.inl rfl | exact Or.inr rfl)) (fgs_cons (fg_name (i := 5) sc.nd rfl (by first | exact Or.inl rfl | exact Or.inr rfl)) fgs_nil)) (n := 2) (hg := (gCons_len (gCons_len gNil_len)))))
  (fss_cons (fs_for PassesOwn.never rfl (fi_range1 rfl G.n_range (fa_cons (fe_call c_law_take hr rfl (fa_cons (fe_var (i := 0) rfl (by first | exact Or.inl rfl | exact Or.inr (Or.inl rfl) | exact Or.inr (Or.inr rfl))) (fa_cons (fe_op opD_add (fe_var (i := 2) rfl (by first | exact Or.inl rfl | exact Or.inr (Or.inl rfl) | exact Or.inr (Or.inr rfl))) fe_int) fa_nil))) fa_nil)) (fg_name (i := 6) sc.nd rfl (by first | exact Or.inl rfl | exact Or.inr rfl))
   (fss_cons (fs_setLc rfl sc.nd (i := 7) rfl rfl rfl (own := [("_law_letter", 9)]) (fi_val (fe_ix ixD_ok (fe_var (i := 1) rfl (by first | exact Or.inl rfl | exact Or.inr (Or.inl rfl) | exact Or.inr (Or.inr rfl))) fe_int (fun _ _ => rfl))) (blkOk_by (by show blkC ["_law_draw", "_law_plan", "_law_most", "_law_kind", "_law_found", "_law_top", "_law_turn", "_law_keys", "_law_more", "_law_letter"] (defScope s_law_rows) _ [("_law_letter", 9)] = true; decide +kernel)) (fun _ _ _ _ _ => (fg_name (i := 9) sc.nd rfl (by first | exact Or.inl rfl | exact Or.inr rfl))) (fun _ _ _ _ _ => fts_nil) (fun _ _ _ _ _ => (fe_call c_law_take hr rfl (fa_cons (fe_var (i := 0) rfl (by first | exact Or.inl rfl | exact Or.inr (Or.inl rfl) | exact Or.inr (Or.inr rfl))) (fa_cons (fe_var (i := 5) rfl (by first | exact Or.inl rfl | exact Or.inr (Or.inl rfl) | exact Or.inr (Or.inr rfl))) fa_nil)))))
  (fss_cons (fs_if (ft_w (fw_and (FC.ft (fc_data (opD_ne hr) (fe_var (i := 4) rfl (by first | exact Or.inl rfl | exact Or.inr (Or.inl rfl) | exact Or.inr (Or.inr rfl))) (fe_lst fa_nil) rfl)) (fw_and1 (FC.ft (fc_data (opD_eq hr) (fe_call c_law_take hr rfl (fa_cons (fe_var (i := 0) rfl (by first | exact Or.inl rfl | exact Or.inr (Or.inl rfl) | exact Or.inr (Or.inr rfl))) (fa_cons fe_int fa_nil))) fe_int rfl))))) (fss_one (fs_set (i := 7) sc.nd rfl (by first | exact Or.inl rfl | exact Or.inr rfl) (fe_ty (bD_list rfl) rfl G.n_list bo_list (fa_cons (fe_ix ixD_ok (fe_call c_law_pick hr rfl (fa_cons (fe_var (i := 0) rfl (by first | exact Or.inl rfl | exact Or.inr (Or.inl rfl) | exact Or.inr (Or.inr rfl))) (fa_cons (fe_var (i := 4) rfl (by first | exact Or.inl rfl | exact Or.inr (Or.inl rfl) | exact Or.inr (Or.inr rfl))) fa_nil))) fe_int (fun _ _ => rfl)) fa_nil)))) fss_nil)
  (fss_cons (fs_if (ft_w (fw_and (FC.ft (fc_data (opD_eq hr) (fe_var (i := 3) rfl (by first | exact Or.inl rfl | exact Or.inr (Or.inl rfl) | exact Or.inr (Or.inr rfl))) fe_str rfl)) (fw_and1 (FC.ft (fc_data (opD_eq hr) (fe_call c_law_take hr rfl (fa_cons (fe_var (i := 0) rfl (by first | exact Or.inl rfl | exact Or.inr (Or.inl rfl) | exact Or.inr (Or.inr rfl))) (fa_cons fe_int fa_nil))) fe_int rfl))))) (fss_one (fs_lput (pv 7) (fe_call c_law_take hr rfl (fa_cons (fe_var (i := 0) rfl (by first | exact Or.inl rfl | exact Or.inr (Or.inl rfl) | exact Or.inr (Or.inr rfl))) (fa_cons (fe_b bD_len rfl G.n_len bo_len (fa_cons (fe_var (i := 7) rfl (by first | exact Or.inl rfl | exact Or.inr (Or.inl rfl) | exact Or.inr (Or.inr rfl))) fa_nil)) fa_nil))) (fe_call c_law_pick hr rfl (fa_cons (fe_var (i := 0) rfl (by first | exact Or.inl rfl | exact Or.inr (Or.inl rfl) | exact Or.inr (Or.inr rfl))) (fa_cons (fe_lst (fa_cons (fe_op opD_pow fe_int fe_int) (fa_cons (fe_op opD_sub (fe_op opD_pow fe_int fe_int) fe_int) (fa_cons fe_int fa_nil)))) fa_nil))))) fss_nil)
  (fss_cons (fs_set (i := 8) sc.nd rfl (by first | exact Or.inl rfl | exact Or.inr rfl) (fe_op opD_add (fe_var (i := 4) rfl (by first | exact Or.inl rfl | exact Or.inr (Or.inl rfl) | exact Or.inr (Or.inr rfl))) (fe_lst (fa_cons (fe_call c_law_row hr rfl (fa_cons (fe_var (i := 0) rfl (by first | exact Or.inl rfl | exact Or.inr (Or.inl rfl) | exact Or.inr (Or.inr rfl))) (fa_cons (fe_call c_law_fitted hr rfl (fa_cons (fe_var (i := 1) rfl (by first | exact Or.inl rfl | exact Or.inr (Or.inl rfl) | exact Or.inr (Or.inr rfl))) (fa_cons (fe_var (i := 4) rfl (by first | exact Or.inl rfl | exact Or.inr (Or.inl rfl) | exact Or.inr (Or.inr rfl))) (fa_cons (fe_var (i := 7) rfl (by first | exact Or.inl rfl | exact Or.inr (Or.inl rfl) | exact Or.inr (Or.inr rfl))) fa_nil)))) (fa_cons (fe_var (i := 3) rfl (by first | exact Or.inl rfl | exact Or.inr (Or.inl rfl) | exact Or.inr (Or.inr rfl))) fa_nil)))) fa_nil))))
  (fss_one (fs_if (FC.ft (fc_isN (fe_call c_law_broken hr rfl (fa_cons (fe_var (i := 1) rfl (by first | exact Or.inl rfl | exact Or.inr (Or.inl rfl) | exact Or.inr (Or.inr rfl))) (fa_cons (fe_var (i := 8) rfl (by first | exact Or.inl rfl | exact Or.inr (Or.inl rfl) | exact Or.inr (Or.inr rfl))) fa_nil))))) (fss_one (fs_set (i := 4) sc.nd rfl (by first | exact Or.inl rfl | exact Or.inr rfl) (fe_var (i := 8) rfl (by first | exact Or.inl rfl | exact Or.inr (Or.inl rfl) | exact Or.inr (Or.inr rfl))))) fss_nil)))))))
  (fss_one (fs_ret (fe_var (i := 4) rfl (by first | exact Or.inl rfl | exact Or.inr (Or.inl rfl) | exact Or.inr (Or.inr rfl))))))))
/-! _law_columns -/
theorem sc_law_columns : FnScope ["_law_draw", "_law_most", "_law_left", "_law_many"] ["_law_draw", "_law_most"] (defScope s_law_columns) := C8.fnScope_by (by decide +kernel)
theorem ok_law_columns {f : Addr} {fd : FuncData} (G : Gt K mg) (F : Fun K "_law_columns" "_law_columns" s_law_columns f fd) (c_law_take : CalD P w K mg base 3 "_law_take" 2 [] D_law_take) : FnOk P w K mg base CX0 4 f fd ["_law_draw", "_law_most"] (spD ⟨K, mg⟩ 2 D_law_columns) :=
  have sc := sc_law_columns
  def_ok (k := 3) F sc (fun cdv A outer s H E hr => (fss_cons (fs_par2 rfl sc.nd (i := 2) (j := 3) rfl rfl (by decide) rfl rfl (fp_cons (fe_ty (bD_list rfl) rfl G.n_list bo_list (fa_cons fe_str fa_nil)) (fp_cons (fe_op opD_add fe_int (fe_call c_law_take hr rfl (fa_cons (fe_var (i := 0) rfl (by first | exact Or.inl rfl | exact Or.inr (Or.inl rfl) | exact Or.inr (Or.inr rfl))) (fa_cons (fe_var (i := 1) rfl (by first | exact Or.inl rfl | exact Or.inr (Or.inl rfl) | exact Or.inr (Or.inr rfl))) fa_nil)))) fp_nil)) rfl)
  (fss_cons (fs_while 1000000 PassesOwn.never (FC.ft (fc_data opD_gt (fe_b bD_len rfl G.n_len bo_len (fa_cons (fe_var (i := 2) rfl (by first | exact Or.inl rfl | exact Or.inr (Or.inl rfl) | exact Or.inr (Or.inr rfl))) fa_nil)) (fe_var (i := 3) rfl (by first | exact Or.inl rfl | exact Or.inr (Or.inl rfl) | exact Or.inr (Or.inr rfl))) rfl)) (fss_one (fs_expr (fe_pop (pv 2) (fe_call c_law_take hr rfl (fa_cons (fe_var (i := 0) rfl (by first | exact Or.inl rfl | exact Or.inr (Or.inl rfl) | exact Or.inr (Or.inr rfl))) (fa_cons (fe_b bD_len rfl G.n_len bo_len (fa_cons (fe_var (i := 2) rfl (by first | exact Or.inl rfl | exact Or.inr (Or.inl rfl) | exact Or.inr (Or.inr rfl))) fa_nil)) fa_nil)))))))
  (fss_one (fs_ret (fe_m1 PySem.F.slot_str_join PySem.F.type_str_join mD_join fe_str (fe_var (i := 2) rfl (by first | exact Or.inl rfl | exact Or.inr (Or.inl rfl) | exact Or.inr (Or.inr rfl)))))))))
/-! _law_drawn -/
theorem sc_law_drawn : FnScope ["_law_draw", "_law_most", "_law_ties", "_law_columns_here", "_law_found", "_law_turn", "_law_lower"] ["_law_draw", "_law_most", "_law_ties"] (defScope s_law_drawn) := C8.fnScope_by (by decide +kernel)
theorem ok_law_drawn {f : Addr} {fd : FuncData} (G : Gt K mg) (F : Fun K "_law_drawn" "_law_drawn" s_law_drawn f fd) (c_law_pick : CalD P w K mg base 4 "_law_pick" 2 [] D_law_pick) (c_law_take : CalD P w K mg base 3 "_law_take" 2 [] D_law_take) (c_law_letters : CalD P w K mg base 4 "_law_letters" 2 [] D_law_letters) (c_law_columns : CalD P w K mg base 4 "_law_columns" 2 [] D_law_columns) : FnOk P w K mg base CX0 5 f fd ["_law_draw", "_law_most", "_law_ties"] (spD ⟨K, mg⟩ 3 D_law_drawn) :=
  have sc := sc_law_drawn
  def_ok (k := 4) F sc (fun cdv A outer s H E hr => (fss_cons (fs_par2 rfl sc.nd (i := 3) (j := 4) rfl rfl (by decide) rfl rfl (fp_cons (fe_call c_law_columns hr rfl (fa_cons (fe_var (i := 0) rfl (by first | exact Or.inl rfl | exact Or.inr (Or.inl rfl) | exact Or.inr (Or.inr rfl))) (fa_cons (fe_var (i := 1) rfl (by first | exact Or.inl rfl | exact Or.inr (Or.inl rfl) | exact Or.inr (Or.inr rfl))) fa_nil))) (fp_cons (fe_lst fa_nil) fp_nil)) rfl)
  (fss_cons (fs_for PassesOwn.never rfl (fi_range1 rfl G.n_range (fa_cons (fe_call c_law_pick hr rfl (fa_cons (fe_var (i := 0) rfl (by first | exact Or.inl rfl | exact Or.inr (Or.inl rfl) | exact Or.inr (Or.inr rfl))) (fa_cons (fe_lst (fa_cons fe_int (fa_cons fe_int (fa_cons fe_int (fa_cons fe_int (fa_cons (fe_call c_law_take hr rfl (fa_cons (fe_var (i := 0) rfl (by first | exact Or.inl rfl | exact Or.inr (Or.inl rfl) | exact Or.inr (Or.inr rfl))) (fa_cons (fe_op opD_add (fe_var (i := 2) rfl (by first | exact Or.inl rfl | exact Or.inr (Or.inl rfl) | exact Or.inr (Or.inr rfl))) fe_int) fa_nil))) fa_nil)))))) fa_nil))) fa_nil)) (fg_name (i := 5) sc.nd rfl (by first | exact Or.inl rfl | exact Or.inr rfl))
   (fss_cons (fs_set (i := 6) sc.nd rfl (by first | exact Or.inl rfl | exact Or.inr rfl) (fe_call c_law_letters hr rfl (fa_cons (fe_var (i := 0) rfl (by first | exact Or.inl rfl | exact Or.inr (Or.inl rfl) | exact Or.inr (Or.inr rfl))) (fa_cons (fe_op opD_add (fe_var (i := 3) rfl (by first | exact Or.inl rfl | exact Or.inr (Or.inl rfl) | exact Or.inr (Or.inr rfl))) fe_str) fa_nil))))
  (fss_cons (fs_if (ft_w (fw_and (FC.ft (fc_data (opD_eq hr) (fe_var (i := 6) rfl (by first | exact Or.inl rfl | exact Or.inr (Or.inl rfl) | exact Or.inr (Or.inr rfl))) fe_str rfl)) (fw_and1 (FC.ft (fc_data opD_gt (fe_call c_law_take hr rfl (fa_cons (fe_var (i := 0) rfl (by first | exact Or.inl rfl | exact Or.inr (Or.inl rfl) | exact Or.inr (Or.inr rfl))) (fa_cons fe_int fa_nil))) fe_int rfl))))) (fss_one (fs_set (i := 6) sc.nd rfl (by first | exact Or.inl rfl | exact Or.inr rfl) (fe_call c_law_pick hr rfl (fa_cons (fe_var (i := 0) rfl (by first | exact Or.inl rfl | exact Or.inr (Or.inl rfl) | exact Or.inr (Or.inr rfl))) (fa_cons (fe_ty (bD_list rfl) rfl G.n_list bo_list (fa_cons (fe_var (i := 3) rfl (by first | exact Or.inl rfl | exact Or.inr (Or.inl rfl) | exact Or.inr (Or.inr rfl))) fa_nil)) fa_nil))))) fss_nil)
  (fss_one (fs_expr (fe_append (pv 4) (fe_tup (fa_cons (fe_var (i := 6) rfl (by first | exact Or.inl rfl | exact Or.inr (Or.inl rfl) | exact Or.inr (Or.inr rfl))) (fa_cons (fe_call c_law_pick hr rfl (fa_cons (fe_var (i := 0) rfl (by first | exact Or.inl rfl | exact Or.inr (Or.inl rfl) | exact Or.inr (Or.inr rfl))) (fa_cons (fe_ty (bD_list rfl) rfl G.n_list bo_list (fa_cons (fe_op opD_add (fe_var (i := 3) rfl (by first | exact Or.inl rfl | exact Or.inr (Or.inl rfl) | exact Or.inr (Or.inr rfl))) fe_str) fa_nil)) fa_nil))) fa_nil)))))))))
  (fss_one (fs_ret (fe_tup (fa_cons (fe_var (i := 3) rfl (by first | exact Or.inl rfl | exact Or.inr (Or.inl rfl) | exact Or.inr (Or.inr rfl))) (fa_cons (fe_ty bD_tup rfl G.n_tuple bo_tuple (fa_cons (fe_sl (fe_var (i := 4) rfl (by first | exact Or.inl rfl | exact Or.inr (Or.inl rfl) | exact Or.inr (Or.inr rfl))) fo_none (fo_some (fe_var (i := 2) rfl (by first | exact Or.inl rfl | exact Or.inr (Or.inl rfl) | exact Or.inr (Or.inr rfl))))) fa_nil)) fa_nil))))))))
/-! law -/
theorem sc_law : FnScope ["_law_script", "_law_draw", "_law_turn", "_law_plan", "_law_made", "_law_one", "_law_lap", "_law_mine", "_law_closed", "_law_around", "_law_found", "_law_letter", "_law_lower", "_law_wider", "_law_other", "_law_each"] ["_law_script"] (defScope s_law) := C8.fnScope_by (by decide +kernel)
theorem ok_law {f g : Addr} {fd fdg : FuncData} {psg : List Str} (G : Gt K mg) (F : Fun K "law" "law" s_law f fd) (FB : FnOk P w K mg base CX0 2 g fdg psg (spB ⟨K, mg⟩ beg)) (mb : mg "_law_begun" = some (.ref g)) (kpb : PySem.W.keepIn K (.ref g) = true) (bb : Binds K fdg psg []) (c_m_Table_broken : MetD P w K mg base 7 "Table" "broken" 2 [] D_Table_broken) (c_law_is_within : CalD P w K mg base 2 "_law_is_within" 2 [] D_law_is_within) (c_m_Scheme_closure : MetD P w K mg base 5 "Scheme" "closure" 2 [] D_Scheme_closure) (c_law_letters : CalD P w K mg base 4 "_law_letters" 2 [] D_law_letters) (c_law_pick : CalD P w K mg base 4 "_law_pick" 2 [] D_law_pick) (c_law_sets : CalD P w K mg base 2 "_law_sets" 1 [] D_law_sets) (c_m_Scheme_with_more : MetD P w K mg base 8 "Scheme" "with_more" 2 [] D_Scheme_with_more) (c_q_Scheme_eq : EqsD P w K mg base 7 "Scheme" icq_Scheme D_Scheme_eq) (c_m_Table_groups : MetD P w K mg base 5 "Table" "groups" 2 [] D_Table_groups) (c_law_common : CalD P w K mg base 2 "_law_common" 2 [] D_law_common) (c_k_Table_init_2 : MakD P w K mg base 5 "Table" 3 [] I_Table) (c_law_rows : CalD P w K mg base 6 "_law_rows" 4 [] D_law_rows) (c_k_Scheme_init_2 : MakD P w K mg base 6 "Scheme" 3 [] I_Scheme) (c_m_Scheme_closed_sets : MetD P w K mg base 6 "Scheme" "closed_sets" 1 [] D_Scheme_closed_sets) (c_law_drawn : CalD P w K mg base 5 "_law_drawn" 3 [] D_law_drawn) : LG.FnG P w K mg base 9 f fd ["_law_script"] (spL ⟨K, mg⟩ law) :=
  have sc := sc_law
  law_ok (k := 8) F sc FB mb kpb bb (by decide) rfl rfl rfl (by first | exact Or.inl rfl | exact Or.inr (Or.inl rfl) | exact Or.inr (Or.inr rfl)) (by first | exact Or.inl rfl | exact Or.inr rfl) rfl (by decide +kernel) (by decide +kernel) (by decide +kernel) (fun cdv A outer s H E hr hG => (fss_cons (fs_for PassesOwn.never rfl (fi_range1 rfl G.n_range (fa_cons (fe_op opD_add fe_int (fe_b (bD_min rfl) rfl G.n_min bo_min (fa_cons (fe_b bD_len rfl G.n_len bo_len (fa_cons (fe_var (i := 0) rfl (by first | exact Or.inl rfl | exact Or.inr (Or.inl rfl) | exact Or.inr (Or.inr rfl))) fa_nil)) (fa_cons fe_int fa_nil)))) fa_nil)) (fg_name (i := 2) sc.nd rfl (by first | exact Or.inl rfl | exact Or.inr rfl))
   (fss_cons (fs_set (i := 3) sc.nd rfl (by first | exact Or.inl rfl | exact Or.inr rfl) (fe_call c_law_drawn hr rfl (fa_cons (fe_var (i := 1) rfl (by first | exact Or.inl rfl | exact Or.inr (Or.inl rfl) | exact Or.inr (Or.inr rfl))) (fa_cons fe_int (fa_cons fe_int fa_nil)))))
  (fss_cons (fs_par2 rfl sc.nd (i := 7) (j := 8) rfl rfl (by decide) rfl rfl (fp_cons (fe_make c_k_Scheme_init_2 hr rfl (fa_cons (fe_ix ixD_ok (fe_var (i := 3) rfl (by first | exact Or.inl rfl | exact Or.inr (Or.inl rfl) | exact Or.inr (Or.inr rfl))) fe_int (fun _ _ => rfl)) (fa_cons (fe_ix ixD_ok (fe_var (i := 3) rfl (by first | exact Or.inl rfl | exact Or.inr (Or.inl rfl) | exact Or.inr (Or.inr rfl))) fe_int (fun _ _ => rfl)) fa_nil))) (fp_cons (fe_meth0 c_m_Scheme_closed_sets hr (fe_make c_k_Scheme_init_2 hr rfl (fa_cons (fe_ix ixD_ok (fe_var (i := 3) rfl (by first | exact Or.inl rfl | exact Or.inr (Or.inl rfl) | exact Or.inr (Or.inr rfl))) fe_int (fun _ _ => rfl)) (fa_cons (fe_ix ixD_ok (fe_var (i := 3) rfl (by first | exact Or.inl rfl | exact Or.inr (Or.inl rfl) | exact Or.inr (Or.inr rfl))) fe_int (fun _ _ => rfl)) fa_nil)))) fp_nil)) rfl)
  (fss_cons (fs_set (i := 4) sc.nd rfl (by first | exact Or.inl rfl | exact Or.inr rfl) (fe_make c_k_Table_init_2 hr rfl (fa_cons (fe_ix ixD_ok (fe_var (i := 3) rfl (by first | exact Or.inl rfl | exact Or.inr (Or.inl rfl) | exact Or.inr (Or.inr rfl))) fe_int (fun _ _ => rfl)) (fa_cons (fe_call c_law_rows hr rfl (fa_cons (fe_var (i := 1) rfl (by first | exact Or.inl rfl | exact Or.inr (Or.inl rfl) | exact Or.inr (Or.inr rfl))) (fa_cons (fe_var (i := 3) rfl (by first | exact Or.inl rfl | exact Or.inr (Or.inl rfl) | exact Or.inr (Or.inr rfl))) (fa_cons fe_int (fa_cons fe_str fa_nil))))) fa_nil))))
  (fss_cons (fs_for PassesOwn.never rfl (fi_val (fe_call c_law_sets hr rfl (fa_cons (fe_ix ixD_ok (fe_var (i := 3) rfl (by first | exact Or.inl rfl | exact Or.inr (Or.inl rfl) | exact Or.inr (Or.inr rfl))) fe_int (fun _ _ => rfl)) fa_nil))) (fg_name (i := 5) sc.nd rfl (by first | exact Or.inl rfl | exact Or.inr rfl))
   (fss_cons (fs_setLc rfl sc.nd (i := 9) rfl rfl rfl (own := [("_law_each", 15)]) (fi_val (fe_var (i := 8) rfl (by first | exact Or.inl rfl | exact Or.inr (Or.inl rfl) | exact Or.inr (Or.inr rfl)))) (blkOk_by (by show blkC ["_law_script", "_law_draw", "_law_turn", "_law_plan", "_law_made", "_law_one", "_law_lap", "_law_mine", "_law_closed", "_law_around", "_law_found", "_law_letter", "_law_lower", "_law_wider", "_law_other", "_law_each"] (defScope s_law) _ [("_law_each", 15)] = true; decide +kernel)) (fun _ _ _ _ _ => (fg_name (i := 15) sc.nd rfl (by first | exact Or.inl rfl | exact Or.inr rfl))) (fun _ _ _ _ _ => (fts_one (ft_val (fe_call c_law_is_within hr rfl (fa_cons (fe_var (i := 5) rfl (by first | exact Or.inl rfl | exact Or.inr (Or.inl rfl) | exact Or.inr (Or.inr rfl))) (fa_cons (fe_var (i := 15) rfl (by first | exact Or.inl rfl | exact Or.inr (Or.inl rfl) | exact Or.inr (Or.inr rfl))) fa_nil)))))) (fun _ _ _ _ _ => (fe_var (i := 15) rfl (by first | exact Or.inl rfl | exact Or.inr (Or.inl rfl) | exact Or.inr (Or.inr rfl)))))
  (fss_cons (fs_set (i := 10) sc.nd rfl (by first | exact Or.inl rfl | exact Or.inr rfl) (fe_meth c_m_Scheme_closure hr (fe_var (i := 7) rfl (by first | exact Or.inl rfl | exact Or.inr (Or.inl rfl) | exact Or.inr (Or.inr rfl))) (fa_cons (fe_var (i := 5) rfl (by first | exact Or.inl rfl | exact Or.inr (Or.inl rfl) | exact Or.inr (Or.inr rfl))) fa_nil)))
  (fss_cons (fs_if (ft_w (fw_or (FC.ft (fc_data (opD_ne hr) (fe_var (i := 10) rfl (by first | exact Or.inl rfl | exact Or.inr (Or.inl rfl) | exact Or.inr (Or.inr rfl))) (fe_call c_law_common hr rfl (fa_cons (fe_var (i := 9) rfl (by first | exact Or.inl rfl | exact Or.inr (Or.inl rfl) | exact Or.inr (Or.inr rfl))) (fa_cons (fe_op opD_add (fe_ix ixD_ok (fe_var (i := 3) rfl (by first | exact Or.inl rfl | exact Or.inr (Or.inl rfl) | exact Or.inr (Or.inr rfl))) fe_int (fun _ _ => rfl)) fe_str) fa_nil))) rfl)) (fw_or1 (FC.ft (fc_data (opD_ne hr) (fe_meth c_m_Scheme_closure hr (fe_var (i := 7) rfl (by first | exact Or.inl rfl | exact Or.inr (Or.inl rfl) | exact Or.inr (Or.inr rfl))) (fa_cons (fe_var (i := 10) rfl (by first | exact Or.inl rfl | exact Or.inr (Or.inl rfl) | exact Or.inr (Or.inr rfl))) fa_nil)) (fe_var (i := 10) rfl (by first | exact Or.inl rfl | exact Or.inr (Or.inl rfl) | exact Or.inr (Or.inr rfl))) rfl))))) (fss_one (fs_ret fe_bl)) fss_nil)
  (fss_cons (fs_if (FC.ft (fc_data (opD_ne hr) (fe_meth c_m_Table_groups hr (fe_var (i := 4) rfl (by first | exact Or.inl rfl | exact Or.inr (Or.inl rfl) | exact Or.inr (Or.inr rfl))) (fa_cons (fe_var (i := 5) rfl (by first | exact Or.inl rfl | exact Or.inr (Or.inl rfl) | exact Or.inr (Or.inr rfl))) fa_nil)) (fe_meth c_m_Table_groups hr (fe_var (i := 4) rfl (by first | exact Or.inl rfl | exact Or.inr (Or.inl rfl) | exact Or.inr (Or.inr rfl))) (fa_cons (fe_var (i := 10) rfl (by first | exact Or.inl rfl | exact Or.inr (Or.inl rfl) | exact Or.inr (Or.inr rfl))) fa_nil)) rfl)) (fss_one (fs_ret fe_bl)) fss_nil)
  (fss_cons (fs_set (i := 11) sc.nd rfl (by first | exact Or.inl rfl | exact Or.inr rfl) (fe_call c_law_pick hr rfl (fa_cons (fe_var (i := 1) rfl (by first | exact Or.inl rfl | exact Or.inr (Or.inl rfl) | exact Or.inr (Or.inr rfl))) (fa_cons (fe_ty (bD_list rfl) rfl G.n_list bo_list (fa_cons (fe_orV (fe_var (i := 10) rfl (by first | exact Or.inl rfl | exact Or.inr (Or.inl rfl) | exact Or.inr (Or.inr rfl))) (fe_one fe_str)) fa_nil)) fa_nil))))
  (fss_one (fs_if (ft_w (fw_and (FC.ft (fc_data (opD_ne hr) (fe_var (i := 10) rfl (by first | exact Or.inl rfl | exact Or.inr (Or.inl rfl) | exact Or.inr (Or.inr rfl))) fe_str rfl)) (fw_and1 (ft_not (FC.ft (fc_eqO c_q_Scheme_eq hr (fe_var (i := 7) rfl (by first | exact Or.inl rfl | exact Or.inr (Or.inl rfl) | exact Or.inr (Or.inr rfl))) (fe_meth c_m_Scheme_with_more hr (fe_var (i := 7) rfl (by first | exact Or.inl rfl | exact Or.inr (Or.inl rfl) | exact Or.inr (Or.inr rfl))) (fa_cons (fe_lst (fa_cons (fe_tup (fa_cons (fe_var (i := 5) rfl (by first | exact Or.inl rfl | exact Or.inr (Or.inl rfl) | exact Or.inr (Or.inr rfl))) (fa_cons (fe_var (i := 11) rfl (by first | exact Or.inl rfl | exact Or.inr (Or.inl rfl) | exact Or.inr (Or.inr rfl))) fa_nil))) fa_nil)) fa_nil)))))))) (fss_one (fs_ret fe_bl)) fss_nil))))))))
  (fss_cons (fs_for PassesOwn.never rfl (fi_range1 rfl G.n_range (fa_cons fe_int fa_nil)) (fg_name (i := 6) sc.nd rfl (by first | exact Or.inl rfl | exact Or.inr rfl))
   (fss_cons (fs_asg (fe_tup (fa_cons (fe_call c_law_pick hr rfl (fa_cons (fe_var (i := 1) rfl (by first | exact Or.inl rfl | exact Or.inr (Or.inl rfl) | exact Or.inr (Or.inr rfl))) (fa_cons (fe_var (i := 8) rfl (by first | exact Or.inl rfl | exact Or.inr (Or.inl rfl) | exact Or.inr (Or.inr rfl))) fa_nil))) (fa_cons (fe_call c_law_pick hr rfl (fa_cons (fe_var (i := 1) rfl (by first | exact Or.inl rfl | exact Or.inr (Or.inl rfl) | exact Or.inr (Or.inr rfl))) (fa_cons (fe_var (i := 8) rfl (by first | exact Or.inl rfl | exact Or.inr (Or.inl rfl) | exact Or.inr (Or.inr rfl))) fa_nil))) fa_nil))) (fg_tup rfl (fgs_cons (fg_name (i := 5) sc.nd rfl (by first | exact Or.inl rfl | exact Or.inr rfl)) (fgs_cons (fg_name (i := 14) sc.nd rfl (by first | exact Or.inl rfl | exact Or.inr rfl)) fgs_nil)) (n := 2) (hg := (gCons_len (gCons_len gNil_len)))))
  (fss_cons (fs_if (FC.ft (fc_data (opD_notInL hr) (fe_m1 PySem.F.slot_str_join PySem.F.type_str_join mD_join fe_str (fe_lc rfl sc.nd (own := [("_law_letter", 11)]) (fi_val (fe_var (i := 5) rfl (by first | exact Or.inl rfl | exact Or.inr (Or.inl rfl) | exact Or.inr (Or.inr rfl)))) (blkOk_by (by show blkC ["_law_script", "_law_draw", "_law_turn", "_law_plan", "_law_made", "_law_one", "_law_lap", "_law_mine", "_law_closed", "_law_around", "_law_found", "_law_letter", "_law_lower", "_law_wider", "_law_other", "_law_each"] (defScope s_law) _ [("_law_letter", 11)] = true; decide +kernel)) (fun _ _ _ _ _ => (fg_name (i := 11) sc.nd rfl (by first | exact Or.inl rfl | exact Or.inr rfl))) (fun _ _ _ _ _ => (fts_one (FC.ft (fc_data opD_in (fe_var (i := 11) rfl (by first | exact Or.inl rfl | exact Or.inr (Or.inl rfl) | exact Or.inr (Or.inr rfl))) (fe_var (i := 14) rfl (by first | exact Or.inl rfl | exact Or.inr (Or.inl rfl) | exact Or.inr (Or.inr rfl))) rfl)))) (fun _ _ _ _ _ => (fe_var (i := 11) rfl (by first | exact Or.inl rfl | exact Or.inr (Or.inl rfl) | exact Or.inr (Or.inr rfl)))))) (fe_var (i := 8) rfl (by first | exact Or.inl rfl | exact Or.inr (Or.inl rfl) | exact Or.inr (Or.inr rfl))) rfl)) (fss_one (fs_ret fe_bl)) fss_nil)
  (fss_cons (fs_set (i := 12) sc.nd rfl (by first | exact Or.inl rfl | exact Or.inr rfl) (fe_call c_law_letters hr rfl (fa_cons (fe_var (i := 1) rfl (by first | exact Or.inl rfl | exact Or.inr (Or.inl rfl) | exact Or.inr (Or.inr rfl))) (fa_cons (fe_op opD_add (fe_ix ixD_ok (fe_var (i := 3) rfl (by first | exact Or.inl rfl | exact Or.inr (Or.inl rfl) | exact Or.inr (Or.inr rfl))) fe_int (fun _ _ => rfl)) fe_str) fa_nil))))
  (fss_cons (fs_set (i := 13) sc.nd rfl (by first | exact Or.inl rfl | exact Or.inr rfl) (fe_m1 PySem.F.slot_str_join PySem.F.type_str_join mD_join fe_str (fe_sset rfl rfl G.n_sorted rfl G.n_set (fe_op opD_add (fe_var (i := 12) rfl (by first | exact Or.inl rfl | exact Or.inr (Or.inl rfl) | exact Or.inr (Or.inr rfl))) (fe_call c_law_letters hr rfl (fa_cons (fe_var (i := 1) rfl (by first | exact Or.inl rfl | exact Or.inr (Or.inl rfl) | exact Or.inr (Or.inr rfl))) (fa_cons (fe_op opD_add (fe_ix ixD_ok (fe_var (i := 3) rfl (by first | exact Or.inl rfl | exact Or.inr (Or.inl rfl) | exact Or.inr (Or.inr rfl))) fe_int (fun _ _ => rfl)) fe_str) fa_nil)))))))
  (fss_one (fs_if (ft_not (ft_val (fe_call c_law_is_within hr rfl (fa_cons (fe_meth c_m_Scheme_closure hr (fe_var (i := 7) rfl (by first | exact Or.inl rfl | exact Or.inr (Or.inl rfl) | exact Or.inr (Or.inr rfl))) (fa_cons (fe_var (i := 12) rfl (by first | exact Or.inl rfl | exact Or.inr (Or.inl rfl) | exact Or.inr (Or.inr rfl))) fa_nil)) (fa_cons (fe_meth c_m_Scheme_closure hr (fe_var (i := 7) rfl (by first | exact Or.inl rfl | exact Or.inr (Or.inl rfl) | exact Or.inr (Or.inr rfl))) (fa_cons (fe_var (i := 13) rfl (by first | exact Or.inl rfl | exact Or.inr (Or.inl rfl) | exact Or.inr (Or.inr rfl))) fa_nil)) fa_nil))))) (fss_one (fs_ret fe_bl)) fss_nil)))))))
  (fss_one (fs_if (FC.ft (fc_notN (fe_meth c_m_Table_broken hr (fe_var (i := 4) rfl (by first | exact Or.inl rfl | exact Or.inr (Or.inl rfl) | exact Or.inr (Or.inr rfl))) (fa_cons (fe_var (i := 7) rfl (by first | exact Or.inl rfl | exact Or.inr (Or.inl rfl) | exact Or.inr (Or.inr rfl))) fa_nil)))) (fss_one (fs_ret fe_bl)) fss_nil))))))))
  (fss_one (fs_ret fe_bl))))
end
end KL

end sec_Ders
section sec_Asm
set_option maxRecDepth 100000
set_option maxHeartbeats 4000000
/-! printed by gen_asm.py: what the top has written, put together -/
namespace KL
open PySem L2 FD
theorem kb_str : ∀ T ∈ ["NoneType", "bool", "int", "str", "tuple", "list", "dict"], kitB T "str" = some (bt_str T) := by decide +kernel
theorem kb_tuple : ∀ T ∈ ["NoneType", "bool", "int", "str", "tuple", "list", "dict"], kitB T "tuple" = some (bt_tuple T) := by decide +kernel
theorem kb_bool : ∀ T ∈ ["NoneType", "bool", "int", "str", "tuple", "list", "dict"], kitB T "bool" = some (bt_bool T) := by decide +kernel
theorem kb_int : ∀ T ∈ ["NoneType", "bool", "int", "str", "tuple", "list", "dict"], kitB T "int" = some (bt_int T) := by decide +kernel
theorem asm {l : PySem.W.OpenLaw} {w : World} {K : PySem.W.Frag} {h : Heap} {mg : Str → Option Value} {fa : Addr} (X : K.In h) (G0 : h.Ns mainGlobals mg) (hfa : mg "law" = some (.ref fa))
    {C_Scheme : Addr} {C_Table : Addr} {t_ALL_COLUMNS : Tok} {t_MOST_DEPENDENCES : Tok} {t_ROW : Tok} {f_law_begun : Addr} {od_law_begun an_law_begun : Option Addr} {sl_law_begun : Array (Option Value)} {oc_law_begun kV_law_begun dc_law_begun pm_law_begun ct_law_begun : Value} {cd_law_begun : Value} {f_Scheme_dependences : Addr} {od_Scheme_dependences an_Scheme_dependences : Option Addr} {sl_Scheme_dependences : Array (Option Value)} {oc_Scheme_dependences kV_Scheme_dependences dc_Scheme_dependences pm_Scheme_dependences ct_Scheme_dependences : Value} {cd_Scheme_dependences : Value} {p_Scheme_dependences : Addr} {rs_Scheme_dependences : List Value} {f_Table_columns : Addr} {od_Table_columns an_Table_columns : Option Addr} {sl_Table_columns : Array (Option Value)} {oc_Table_columns kV_Table_columns dc_Table_columns pm_Table_columns ct_Table_columns : Value} {cd_Table_columns : Value} {p_Table_columns : Addr} {rs_Table_columns : List Value} {f_Table_rows : Addr} {od_Table_rows an_Table_rows : Option Addr} {sl_Table_rows : Array (Option Value)} {oc_Table_rows kV_Table_rows dc_Table_rows pm_Table_rows ct_Table_rows : Value} {cd_Table_rows : Value} {p_Table_rows : Addr} {rs_Table_rows : List Value} {f_name_at : Addr} {od_name_at an_name_at : Option Addr} {sl_name_at : Array (Option Value)} {oc_name_at kV_name_at dc_name_at pm_name_at ct_name_at : Value} {cd_name_at : Value} {f_rises : Addr} {od_rises an_rises : Option Addr} {sl_rises : Array (Option Value)} {oc_rises kV_rises dc_rises pm_rises ct_rises : Value} {cd_rises : Value} {f_is_set : Addr} {od_is_set an_is_set : Option Addr} {sl_is_set : Array (Option Value)} {oc_is_set kV_is_set dc_is_set pm_is_set ct_is_set : Value} {cd_is_set : Value} {f_need_set : Addr} {od_need_set an_need_set : Option Addr} {sl_need_set : Array (Option Value)} {oc_need_set kV_need_set dc_need_set pm_need_set ct_need_set : Value} {cd_need_set : Value} {f_Table_groups : Addr} {od_Table_groups an_Table_groups : Option Addr} {sl_Table_groups : Array (Option Value)} {oc_Table_groups kV_Table_groups dc_Table_groups pm_Table_groups ct_Table_groups : Value} {cd_Table_groups : Value} {f_Table_keeps : Addr} {od_Table_keeps an_Table_keeps : Option Addr} {sl_Table_keeps : Array (Option Value)} {oc_Table_keeps kV_Table_keeps dc_Table_keeps pm_Table_keeps ct_Table_keeps : Value} {cd_Table_keeps : Value} {f_Scheme_columns : Addr} {od_Scheme_columns an_Scheme_columns : Option Addr} {sl_Scheme_columns : Array (Option Value)} {oc_Scheme_columns kV_Scheme_columns dc_Scheme_columns pm_Scheme_columns ct_Scheme_columns : Value} {cd_Scheme_columns : Value} {p_Scheme_columns : Addr} {rs_Scheme_columns : List Value} {f_Table_broken : Addr} {od_Table_broken an_Table_broken : Option Addr} {sl_Table_broken : Array (Option Value)} {oc_Table_broken kV_Table_broken dc_Table_broken pm_Table_broken ct_Table_broken : Value} {cd_Table_broken : Value} {f_law_is_within : Addr} {od_law_is_within an_law_is_within : Option Addr} {sl_law_is_within : Array (Option Value)} {oc_law_is_within kV_law_is_within dc_law_is_within pm_law_is_within ct_law_is_within : Value} {cd_law_is_within : Value} {f_within : Addr} {od_within an_within : Option Addr} {sl_within : Array (Option Value)} {oc_within kV_within dc_within pm_within ct_within : Value} {cd_within : Value} {f_joined : Addr} {od_joined an_joined : Option Addr} {sl_joined : Array (Option Value)} {oc_joined kV_joined dc_joined pm_joined ct_joined : Value} {cd_joined : Value} {f_closure_of : Addr} {od_closure_of an_closure_of : Option Addr} {sl_closure_of : Array (Option Value)} {oc_closure_of kV_closure_of dc_closure_of pm_closure_of ct_closure_of : Value} {cd_closure_of : Value} {f_Scheme_closure : Addr} {od_Scheme_closure an_Scheme_closure : Option Addr} {sl_Scheme_closure : Array (Option Value)} {oc_Scheme_closure kV_Scheme_closure dc_Scheme_closure pm_Scheme_closure ct_Scheme_closure : Value} {cd_Scheme_closure : Value} {f_law_mixed : Addr} {od_law_mixed an_law_mixed : Option Addr} {sl_law_mixed : Array (Option Value)} {oc_law_mixed kV_law_mixed dc_law_mixed pm_law_mixed ct_law_mixed : Value} {cd_law_mixed : Value} {f_law_take : Addr} {od_law_take an_law_take : Option Addr} {sl_law_take : Array (Option Value)} {oc_law_take kV_law_take dc_law_take pm_law_take ct_law_take : Value} {cd_law_take : Value} {f_law_letters : Addr} {od_law_letters an_law_letters : Option Addr} {sl_law_letters : Array (Option Value)} {oc_law_letters kV_law_letters dc_law_letters pm_law_letters ct_law_letters : Value} {cd_law_letters : Value} {f_law_pick : Addr} {od_law_pick an_law_pick : Option Addr} {sl_law_pick : Array (Option Value)} {oc_law_pick kV_law_pick dc_law_pick pm_law_pick ct_law_pick : Value} {cd_law_pick : Value} {f_law_sets : Addr} {od_law_sets an_law_sets : Option Addr} {sl_law_sets : Array (Option Value)} {oc_law_sets kV_law_sets dc_law_sets pm_law_sets ct_law_sets : Value} {cd_law_sets : Value} {f_is_dependence : Addr} {od_is_dependence an_is_dependence : Option Addr} {sl_is_dependence : Array (Option Value)} {oc_is_dependence kV_is_dependence dc_is_dependence pm_is_dependence ct_is_dependence : Value} {cd_is_dependence : Value} {f_need_dependences : Addr} {od_need_dependences an_need_dependences : Option Addr} {sl_need_dependences : Array (Option Value)} {oc_need_dependences kV_need_dependences dc_need_dependences pm_need_dependences ct_need_dependences : Value} {cd_need_dependences : Value} {f_is_columns : Addr} {od_is_columns an_is_columns : Option Addr} {sl_is_columns : Array (Option Value)} {oc_is_columns kV_is_columns dc_is_columns pm_is_columns ct_is_columns : Value} {cd_is_columns : Value} {f_need_columns : Addr} {od_need_columns an_need_columns : Option Addr} {sl_need_columns : Array (Option Value)} {oc_need_columns kV_need_columns dc_need_columns pm_need_columns ct_need_columns : Value} {cd_need_columns : Value} {f_Scheme_init : Addr} {od_Scheme_init an_Scheme_init : Option Addr} {sl_Scheme_init : Array (Option Value)} {oc_Scheme_init kV_Scheme_init dc_Scheme_init pm_Scheme_init ct_Scheme_init : Value} {cd_Scheme_init : Value} {T_Scheme_init : Addr} {oT_Scheme_init : PySem.Obj} {nT_Scheme_init : Nat} {E_Scheme_init : Addr} {oE_Scheme_init : PySem.Obj} {nE_Scheme_init : Nat} {f_Scheme_with_more : Addr} {od_Scheme_with_more an_Scheme_with_more : Option Addr} {sl_Scheme_with_more : Array (Option Value)} {oc_Scheme_with_more kV_Scheme_with_more dc_Scheme_with_more pm_Scheme_with_more ct_Scheme_with_more : Value} {cd_Scheme_with_more : Value} {f_sets_of : Addr} {od_sets_of an_sets_of : Option Addr} {sl_sets_of : Array (Option Value)} {oc_sets_of kV_sets_of dc_sets_of pm_sets_of ct_sets_of : Value} {f_Scheme_closed_sets : Addr} {od_Scheme_closed_sets an_Scheme_closed_sets : Option Addr} {sl_Scheme_closed_sets : Array (Option Value)} {oc_Scheme_closed_sets kV_Scheme_closed_sets dc_Scheme_closed_sets pm_Scheme_closed_sets ct_Scheme_closed_sets : Value} {cd_Scheme_closed_sets : Value} {f_Scheme_eq : Addr} {od_Scheme_eq an_Scheme_eq : Option Addr} {sl_Scheme_eq : Array (Option Value)} {oc_Scheme_eq kV_Scheme_eq dc_Scheme_eq pm_Scheme_eq ct_Scheme_eq : Value} {cd_Scheme_eq : Value} {f_law_common : Addr} {od_law_common an_law_common : Option Addr} {sl_law_common : Array (Option Value)} {oc_law_common kV_law_common dc_law_common pm_law_common ct_law_common : Value} {cd_law_common : Value} {f_is_number : Addr} {od_is_number an_is_number : Option Addr} {sl_is_number : Array (Option Value)} {oc_is_number kV_is_number dc_is_number pm_is_number ct_is_number : Value} {cd_is_number : Value} {f_is_row : Addr} {od_is_row an_is_row : Option Addr} {sl_is_row : Array (Option Value)} {oc_is_row kV_is_row dc_is_row pm_is_row ct_is_row : Value} {cd_is_row : Value} {f_need_rows : Addr} {od_need_rows an_need_rows : Option Addr} {sl_need_rows : Array (Option Value)} {oc_need_rows kV_need_rows dc_need_rows pm_need_rows ct_need_rows : Value} {cd_need_rows : Value} {f_Table_init : Addr} {od_Table_init an_Table_init : Option Addr} {sl_Table_init : Array (Option Value)} {oc_Table_init kV_Table_init dc_Table_init pm_Table_init ct_Table_init : Value} {cd_Table_init : Value} {f_law_named : Addr} {od_law_named an_law_named : Option Addr} {sl_law_named : Array (Option Value)} {oc_law_named kV_law_named dc_law_named pm_law_named ct_law_named : Value} {cd_law_named : Value} {f_law_broken : Addr} {od_law_broken an_law_broken : Option Addr} {sl_law_broken : Array (Option Value)} {oc_law_broken kV_law_broken dc_law_broken pm_law_broken ct_law_broken : Value} {cd_law_broken : Value} {f_law_row : Addr} {od_law_row an_law_row : Option Addr} {sl_law_row : Array (Option Value)} {oc_law_row kV_law_row dc_law_row pm_law_row ct_law_row : Value} {cd_law_row : Value} {f_law_fitted : Addr} {od_law_fitted an_law_fitted : Option Addr} {sl_law_fitted : Array (Option Value)} {oc_law_fitted kV_law_fitted dc_law_fitted pm_law_fitted ct_law_fitted : Value} {cd_law_fitted : Value} {f_law_rows : Addr} {od_law_rows an_law_rows : Option Addr} {sl_law_rows : Array (Option Value)} {oc_law_rows kV_law_rows dc_law_rows pm_law_rows ct_law_rows : Value} {cd_law_rows : Value} {f_law_columns : Addr} {od_law_columns an_law_columns : Option Addr} {sl_law_columns : Array (Option Value)} {oc_law_columns kV_law_columns dc_law_columns pm_law_columns ct_law_columns : Value} {cd_law_columns : Value} {f_law_drawn : Addr} {od_law_drawn an_law_drawn : Option Addr} {sl_law_drawn : Array (Option Value)} {oc_law_drawn kV_law_drawn dc_law_drawn pm_law_drawn ct_law_drawn : Value} {cd_law_drawn : Value} {f_law : Addr} {od_law an_law : Option Addr} {sl_law : Array (Option Value)} {oc_law kV_law dc_law pm_law ct_law : Value} {cd_law : Value} {ca pa : Addr}
    (aC_Scheme : PySem.W.nsIn K mainGlobals "Scheme" = some (some (.ref C_Scheme)))
    (aC_Table : PySem.W.nsIn K mainGlobals "Table" = some (some (.ref C_Table)))
    (pg_Scheme : PySem.W.plainGet K C_Scheme Str.empty = true)
    (hd_Scheme : PySem.W.hasDictIn K C_Scheme = true)
    (po_Scheme : PySem.W.plainOver K C_Scheme = true)
    (sa_Scheme : PySem.W.findIn K (.ref C_Scheme) "__setattr__" = some (some (.builtin "object.__setattr__")))
    (mk_Scheme : PySem.W.makesIn K C_Scheme = true)
    (kc_Scheme : PySem.W.keepIn K (.ref C_Scheme) = true)
    (ha_Scheme : PySem.W.findIn K (.ref C_Scheme) "__class__" = some (some (.builtin "object.__class__")))
    (mr_Scheme : PySem.W.mroIn K C_Scheme (.type "object") = some true)
    (na_Scheme_own_columns : PySem.W.findIn K (.ref C_Scheme) "own_columns" = some none)
    (na_Scheme_own_dependences : PySem.W.findIn K (.ref C_Scheme) "own_dependences" = some none)
    (ne_Scheme : PySem.W.findIn K (.ref C_Scheme) "__ne__" = some (some (.builtin "object.__ne__")))
    (so_Scheme : PySem.W.subIn K (.ref C_Scheme) (.type "object") = some true)
    (nf_Scheme_NoneType : PySem.W.notFirst K C_Scheme (.type "NoneType") = true)
    (nf_Scheme_bool : PySem.W.notFirst K C_Scheme (.type "bool") = true)
    (nf_Scheme_int : PySem.W.notFirst K C_Scheme (.type "int") = true)
    (nf_Scheme_str : PySem.W.notFirst K C_Scheme (.type "str") = true)
    (nf_Scheme_tuple : PySem.W.notFirst K C_Scheme (.type "tuple") = true)
    (nf_Scheme_list : PySem.W.notFirst K C_Scheme (.type "list") = true)
    (nf_Scheme_dict : PySem.W.notFirst K C_Scheme (.type "dict") = true)
    (nfi_Scheme_Scheme : PySem.W.notFirst K C_Scheme (.ref C_Scheme) = true)
    (nfi_Scheme_Table : PySem.W.notFirst K C_Scheme (.ref C_Table) = true)
    (pg_Table : PySem.W.plainGet K C_Table Str.empty = true)
    (hd_Table : PySem.W.hasDictIn K C_Table = true)
    (po_Table : PySem.W.plainOver K C_Table = true)
    (sa_Table : PySem.W.findIn K (.ref C_Table) "__setattr__" = some (some (.builtin "object.__setattr__")))
    (mk_Table : PySem.W.makesIn K C_Table = true)
    (kc_Table : PySem.W.keepIn K (.ref C_Table) = true)
    (ha_Table : PySem.W.findIn K (.ref C_Table) "__class__" = some (some (.builtin "object.__class__")))
    (mr_Table : PySem.W.mroIn K C_Table (.type "object") = some true)
    (na_Table_own_columns : PySem.W.findIn K (.ref C_Table) "own_columns" = some none)
    (na_Table_own_rows : PySem.W.findIn K (.ref C_Table) "own_rows" = some none)
    (hn0 : PySem.W.specialIn K (.builtin "object.__class__") "__get__" = some (some (.builtin "getset_descriptor.__get__")))
    (ht0 : PySem.W.takesIn K (.builtin "object.__class__") = some true)
    (kk_str_Scheme : PySem.W.kitOne K (.ref C_Scheme) (.type "str") = some false)
    (kk_str_Table : PySem.W.kitOne K (.ref C_Table) (.type "str") = some false)
    (kk_list_tuple_Scheme : PySem.W.kitAny K (.ref C_Scheme) [.type "list", .type "tuple"] = some false)
    (kk_list_tuple_Table : PySem.W.kitAny K (.ref C_Table) [.type "list", .type "tuple"] = some false)
    (kk_tuple_Scheme : PySem.W.kitOne K (.ref C_Scheme) (.type "tuple") = some false)
    (kk_tuple_Table : PySem.W.kitOne K (.ref C_Table) (.type "tuple") = some false)
    (ki_Scheme_NoneType : PySem.W.kitOne K (.type "NoneType") (.ref C_Scheme) = some false)
    (ki_Scheme_bool : PySem.W.kitOne K (.type "bool") (.ref C_Scheme) = some false)
    (ki_Scheme_int : PySem.W.kitOne K (.type "int") (.ref C_Scheme) = some false)
    (ki_Scheme_str : PySem.W.kitOne K (.type "str") (.ref C_Scheme) = some false)
    (ki_Scheme_tuple : PySem.W.kitOne K (.type "tuple") (.ref C_Scheme) = some false)
    (ki_Scheme_list : PySem.W.kitOne K (.type "list") (.ref C_Scheme) = some false)
    (ki_Scheme_dict : PySem.W.kitOne K (.type "dict") (.ref C_Scheme) = some false)
    (kk_Scheme_Scheme : PySem.W.kitOne K (.ref C_Scheme) (.ref C_Scheme) = some true)
    (kk_Scheme_Table : PySem.W.kitOne K (.ref C_Table) (.ref C_Scheme) = some false)
    (kk_bool_Scheme : PySem.W.kitOne K (.ref C_Scheme) (.type "bool") = some false)
    (kk_bool_Table : PySem.W.kitOne K (.ref C_Table) (.type "bool") = some false)
    (kk_int_Scheme : PySem.W.kitOne K (.ref C_Scheme) (.type "int") = some false)
    (kk_int_Table : PySem.W.kitOne K (.ref C_Table) (.type "int") = some false)
    (z_abs : PySem.W.nsIn K mainGlobals "abs" = some none)
    (z_all : PySem.W.nsIn K mainGlobals "all" = some none)
    (z_bool : PySem.W.nsIn K mainGlobals "bool" = some none)
    (z_enumerate : PySem.W.nsIn K mainGlobals "enumerate" = some none)
    (z_int : PySem.W.nsIn K mainGlobals "int" = some none)
    (z_isinstance : PySem.W.nsIn K mainGlobals "isinstance" = some none)
    (z_len : PySem.W.nsIn K mainGlobals "len" = some none)
    (z_list : PySem.W.nsIn K mainGlobals "list" = some none)
    (z_min : PySem.W.nsIn K mainGlobals "min" = some none)
    (z_range : PySem.W.nsIn K mainGlobals "range" = some none)
    (z_set : PySem.W.nsIn K mainGlobals "set" = some none)
    (z_sorted : PySem.W.nsIn K mainGlobals "sorted" = some none)
    (z_str : PySem.W.nsIn K mainGlobals "str" = some none)
    (z_tuple : PySem.W.nsIn K mainGlobals "tuple" = some none)
    (z_zip : PySem.W.nsIn K mainGlobals "zip" = some none)
    (g_ALL_COLUMNS : PySem.W.nsIn K mainGlobals "ALL_COLUMNS" = some (some (.str "abcd" t_ALL_COLUMNS)))
    (g_MOST_DEPENDENCES : PySem.W.nsIn K mainGlobals "MOST_DEPENDENCES" = some (some (.int 20 t_MOST_DEPENDENCES)))
    (g_ROW : PySem.W.nsIn K mainGlobals "ROW" = some (some (.str "r" t_ROW)))
    (a_law_begun : PySem.W.nsIn K mainGlobals "_law_begun" = some (some (.ref f_law_begun)))
    (l_law_begun : K.lookup f_law_begun = some ⟨oc_law_begun, od_law_begun, .func (PySem.W.fnOf "_law_begun" "_law_begun" (defArgs s_law_begun) (defBody s_law_begun) (defScope s_law_begun) .none kV_law_begun dc_law_begun pm_law_begun an_law_begun cd_law_begun ct_law_begun), sl_law_begun⟩)
    (c_law_begun : PySem.W.codeIn K cd_law_begun "_law_begun" = true)
    (k_law_begun : PySem.W.keepIn K (.ref f_law_begun) = true)
    (a_Scheme_dependences : PySem.W.findIn K (.ref C_Scheme) "dependences" = some (some (.ref p_Scheme_dependences)))
    (pg_Scheme_dependences : PySem.W.specialIn K (.ref p_Scheme_dependences) "__get__" = some (some (.builtin "property.__get__")))
    (pt_Scheme_dependences : PySem.W.takesIn K (.ref p_Scheme_dependences) = some true)
    (pr_Scheme_dependences : PySem.W.recIn K p_Scheme_dependences "property" = some (.ref f_Scheme_dependences :: rs_Scheme_dependences))
    (l_Scheme_dependences : K.lookup f_Scheme_dependences = some ⟨oc_Scheme_dependences, od_Scheme_dependences, .func (PySem.W.fnOf "dependences" "Scheme.dependences" (defArgs s_Scheme_dependences) (defBody s_Scheme_dependences) (defScope s_Scheme_dependences) .none kV_Scheme_dependences dc_Scheme_dependences pm_Scheme_dependences an_Scheme_dependences cd_Scheme_dependences ct_Scheme_dependences), sl_Scheme_dependences⟩)
    (c_Scheme_dependences : PySem.W.codeIn K cd_Scheme_dependences "Scheme.dependences" = true)
    (k_Scheme_dependences : PySem.W.keepIn K (.ref f_Scheme_dependences) = true)
    (a_Table_columns : PySem.W.findIn K (.ref C_Table) "columns" = some (some (.ref p_Table_columns)))
    (pg_Table_columns : PySem.W.specialIn K (.ref p_Table_columns) "__get__" = some (some (.builtin "property.__get__")))
    (pt_Table_columns : PySem.W.takesIn K (.ref p_Table_columns) = some true)
    (pr_Table_columns : PySem.W.recIn K p_Table_columns "property" = some (.ref f_Table_columns :: rs_Table_columns))
    (l_Table_columns : K.lookup f_Table_columns = some ⟨oc_Table_columns, od_Table_columns, .func (PySem.W.fnOf "columns" "Table.columns" (defArgs s_Table_columns) (defBody s_Table_columns) (defScope s_Table_columns) .none kV_Table_columns dc_Table_columns pm_Table_columns an_Table_columns cd_Table_columns ct_Table_columns), sl_Table_columns⟩)
    (c_Table_columns : PySem.W.codeIn K cd_Table_columns "Table.columns" = true)
    (k_Table_columns : PySem.W.keepIn K (.ref f_Table_columns) = true)
    (a_Table_rows : PySem.W.findIn K (.ref C_Table) "rows" = some (some (.ref p_Table_rows)))
    (pg_Table_rows : PySem.W.specialIn K (.ref p_Table_rows) "__get__" = some (some (.builtin "property.__get__")))
    (pt_Table_rows : PySem.W.takesIn K (.ref p_Table_rows) = some true)
    (pr_Table_rows : PySem.W.recIn K p_Table_rows "property" = some (.ref f_Table_rows :: rs_Table_rows))
    (l_Table_rows : K.lookup f_Table_rows = some ⟨oc_Table_rows, od_Table_rows, .func (PySem.W.fnOf "rows" "Table.rows" (defArgs s_Table_rows) (defBody s_Table_rows) (defScope s_Table_rows) .none kV_Table_rows dc_Table_rows pm_Table_rows an_Table_rows cd_Table_rows ct_Table_rows), sl_Table_rows⟩)
    (c_Table_rows : PySem.W.codeIn K cd_Table_rows "Table.rows" = true)
    (k_Table_rows : PySem.W.keepIn K (.ref f_Table_rows) = true)
    (a_name_at : PySem.W.nsIn K mainGlobals "name_at" = some (some (.ref f_name_at)))
    (l_name_at : K.lookup f_name_at = some ⟨oc_name_at, od_name_at, .func (PySem.W.fnOf "name_at" "name_at" (defArgs s_name_at) (defBody s_name_at) (defScope s_name_at) .none kV_name_at dc_name_at pm_name_at an_name_at cd_name_at ct_name_at), sl_name_at⟩)
    (c_name_at : PySem.W.codeIn K cd_name_at "name_at" = true)
    (k_name_at : PySem.W.keepIn K (.ref f_name_at) = true)
    (a_rises : PySem.W.nsIn K mainGlobals "rises" = some (some (.ref f_rises)))
    (l_rises : K.lookup f_rises = some ⟨oc_rises, od_rises, .func (PySem.W.fnOf "rises" "rises" (defArgs s_rises) (defBody s_rises) (defScope s_rises) .none kV_rises dc_rises pm_rises an_rises cd_rises ct_rises), sl_rises⟩)
    (c_rises : PySem.W.codeIn K cd_rises "rises" = true)
    (k_rises : PySem.W.keepIn K (.ref f_rises) = true)
    (a_is_set : PySem.W.nsIn K mainGlobals "is_set" = some (some (.ref f_is_set)))
    (l_is_set : K.lookup f_is_set = some ⟨oc_is_set, od_is_set, .func (PySem.W.fnOf "is_set" "is_set" (defArgs s_is_set) (defBody s_is_set) (defScope s_is_set) .none kV_is_set dc_is_set pm_is_set an_is_set cd_is_set ct_is_set), sl_is_set⟩)
    (c_is_set : PySem.W.codeIn K cd_is_set "is_set" = true)
    (k_is_set : PySem.W.keepIn K (.ref f_is_set) = true)
    (a_need_set : PySem.W.nsIn K mainGlobals "need_set" = some (some (.ref f_need_set)))
    (l_need_set : K.lookup f_need_set = some ⟨oc_need_set, od_need_set, .func (PySem.W.fnOf "need_set" "need_set" (defArgs s_need_set) (defBody s_need_set) (defScope s_need_set) .none kV_need_set dc_need_set pm_need_set an_need_set cd_need_set ct_need_set), sl_need_set⟩)
    (c_need_set : PySem.W.codeIn K cd_need_set "need_set" = true)
    (k_need_set : PySem.W.keepIn K (.ref f_need_set) = true)
    (a_Table_groups : PySem.W.findIn K (.ref C_Table) "groups" = some (some (.ref f_Table_groups)))
    (i_Table_groups : PySem.W.isFn K (.ref f_Table_groups) = true)
    (l_Table_groups : K.lookup f_Table_groups = some ⟨oc_Table_groups, od_Table_groups, .func (PySem.W.fnOf "groups" "Table.groups" (defArgs s_Table_groups) (defBody s_Table_groups) (defScope s_Table_groups) .none kV_Table_groups dc_Table_groups pm_Table_groups an_Table_groups cd_Table_groups ct_Table_groups), sl_Table_groups⟩)
    (c_Table_groups : PySem.W.codeIn K cd_Table_groups "Table.groups" = true)
    (k_Table_groups : PySem.W.keepIn K (.ref f_Table_groups) = true)
    (a_Table_keeps : PySem.W.findIn K (.ref C_Table) "keeps" = some (some (.ref f_Table_keeps)))
    (i_Table_keeps : PySem.W.isFn K (.ref f_Table_keeps) = true)
    (l_Table_keeps : K.lookup f_Table_keeps = some ⟨oc_Table_keeps, od_Table_keeps, .func (PySem.W.fnOf "keeps" "Table.keeps" (defArgs s_Table_keeps) (defBody s_Table_keeps) (defScope s_Table_keeps) .none kV_Table_keeps dc_Table_keeps pm_Table_keeps an_Table_keeps cd_Table_keeps ct_Table_keeps), sl_Table_keeps⟩)
    (c_Table_keeps : PySem.W.codeIn K cd_Table_keeps "Table.keeps" = true)
    (k_Table_keeps : PySem.W.keepIn K (.ref f_Table_keeps) = true)
    (a_Scheme_columns : PySem.W.findIn K (.ref C_Scheme) "columns" = some (some (.ref p_Scheme_columns)))
    (pg_Scheme_columns : PySem.W.specialIn K (.ref p_Scheme_columns) "__get__" = some (some (.builtin "property.__get__")))
    (pt_Scheme_columns : PySem.W.takesIn K (.ref p_Scheme_columns) = some true)
    (pr_Scheme_columns : PySem.W.recIn K p_Scheme_columns "property" = some (.ref f_Scheme_columns :: rs_Scheme_columns))
    (l_Scheme_columns : K.lookup f_Scheme_columns = some ⟨oc_Scheme_columns, od_Scheme_columns, .func (PySem.W.fnOf "columns" "Scheme.columns" (defArgs s_Scheme_columns) (defBody s_Scheme_columns) (defScope s_Scheme_columns) .none kV_Scheme_columns dc_Scheme_columns pm_Scheme_columns an_Scheme_columns cd_Scheme_columns ct_Scheme_columns), sl_Scheme_columns⟩)
    (c_Scheme_columns : PySem.W.codeIn K cd_Scheme_columns "Scheme.columns" = true)
    (k_Scheme_columns : PySem.W.keepIn K (.ref f_Scheme_columns) = true)
    (a_Table_broken : PySem.W.findIn K (.ref C_Table) "broken" = some (some (.ref f_Table_broken)))
    (i_Table_broken : PySem.W.isFn K (.ref f_Table_broken) = true)
    (l_Table_broken : K.lookup f_Table_broken = some ⟨oc_Table_broken, od_Table_broken, .func (PySem.W.fnOf "broken" "Table.broken" (defArgs s_Table_broken) (defBody s_Table_broken) (defScope s_Table_broken) .none kV_Table_broken dc_Table_broken pm_Table_broken an_Table_broken cd_Table_broken ct_Table_broken), sl_Table_broken⟩)
    (c_Table_broken : PySem.W.codeIn K cd_Table_broken "Table.broken" = true)
    (k_Table_broken : PySem.W.keepIn K (.ref f_Table_broken) = true)
    (a_law_is_within : PySem.W.nsIn K mainGlobals "_law_is_within" = some (some (.ref f_law_is_within)))
    (l_law_is_within : K.lookup f_law_is_within = some ⟨oc_law_is_within, od_law_is_within, .func (PySem.W.fnOf "_law_is_within" "_law_is_within" (defArgs s_law_is_within) (defBody s_law_is_within) (defScope s_law_is_within) .none kV_law_is_within dc_law_is_within pm_law_is_within an_law_is_within cd_law_is_within ct_law_is_within), sl_law_is_within⟩)
    (c_law_is_within : PySem.W.codeIn K cd_law_is_within "_law_is_within" = true)
    (k_law_is_within : PySem.W.keepIn K (.ref f_law_is_within) = true)
    (a_within : PySem.W.nsIn K mainGlobals "within" = some (some (.ref f_within)))
    (l_within : K.lookup f_within = some ⟨oc_within, od_within, .func (PySem.W.fnOf "within" "within" (defArgs s_within) (defBody s_within) (defScope s_within) .none kV_within dc_within pm_within an_within cd_within ct_within), sl_within⟩)
    (c_within : PySem.W.codeIn K cd_within "within" = true)
    (k_within : PySem.W.keepIn K (.ref f_within) = true)
    (a_joined : PySem.W.nsIn K mainGlobals "joined" = some (some (.ref f_joined)))
    (l_joined : K.lookup f_joined = some ⟨oc_joined, od_joined, .func (PySem.W.fnOf "joined" "joined" (defArgs s_joined) (defBody s_joined) (defScope s_joined) .none kV_joined dc_joined pm_joined an_joined cd_joined ct_joined), sl_joined⟩)
    (c_joined : PySem.W.codeIn K cd_joined "joined" = true)
    (k_joined : PySem.W.keepIn K (.ref f_joined) = true)
    (a_closure_of : PySem.W.nsIn K mainGlobals "closure_of" = some (some (.ref f_closure_of)))
    (l_closure_of : K.lookup f_closure_of = some ⟨oc_closure_of, od_closure_of, .func (PySem.W.fnOf "closure_of" "closure_of" (defArgs s_closure_of) (defBody s_closure_of) (defScope s_closure_of) .none kV_closure_of dc_closure_of pm_closure_of an_closure_of cd_closure_of ct_closure_of), sl_closure_of⟩)
    (c_closure_of : PySem.W.codeIn K cd_closure_of "closure_of" = true)
    (k_closure_of : PySem.W.keepIn K (.ref f_closure_of) = true)
    (a_Scheme_closure : PySem.W.findIn K (.ref C_Scheme) "closure" = some (some (.ref f_Scheme_closure)))
    (i_Scheme_closure : PySem.W.isFn K (.ref f_Scheme_closure) = true)
    (l_Scheme_closure : K.lookup f_Scheme_closure = some ⟨oc_Scheme_closure, od_Scheme_closure, .func (PySem.W.fnOf "closure" "Scheme.closure" (defArgs s_Scheme_closure) (defBody s_Scheme_closure) (defScope s_Scheme_closure) .none kV_Scheme_closure dc_Scheme_closure pm_Scheme_closure an_Scheme_closure cd_Scheme_closure ct_Scheme_closure), sl_Scheme_closure⟩)
    (c_Scheme_closure : PySem.W.codeIn K cd_Scheme_closure "Scheme.closure" = true)
    (k_Scheme_closure : PySem.W.keepIn K (.ref f_Scheme_closure) = true)
    (a_law_mixed : PySem.W.nsIn K mainGlobals "_law_mixed" = some (some (.ref f_law_mixed)))
    (l_law_mixed : K.lookup f_law_mixed = some ⟨oc_law_mixed, od_law_mixed, .func (PySem.W.fnOf "_law_mixed" "_law_mixed" (defArgs s_law_mixed) (defBody s_law_mixed) (defScope s_law_mixed) .none kV_law_mixed dc_law_mixed pm_law_mixed an_law_mixed cd_law_mixed ct_law_mixed), sl_law_mixed⟩)
    (c_law_mixed : PySem.W.codeIn K cd_law_mixed "_law_mixed" = true)
    (k_law_mixed : PySem.W.keepIn K (.ref f_law_mixed) = true)
    (a_law_take : PySem.W.nsIn K mainGlobals "_law_take" = some (some (.ref f_law_take)))
    (l_law_take : K.lookup f_law_take = some ⟨oc_law_take, od_law_take, .func (PySem.W.fnOf "_law_take" "_law_take" (defArgs s_law_take) (defBody s_law_take) (defScope s_law_take) .none kV_law_take dc_law_take pm_law_take an_law_take cd_law_take ct_law_take), sl_law_take⟩)
    (c_law_take : PySem.W.codeIn K cd_law_take "_law_take" = true)
    (k_law_take : PySem.W.keepIn K (.ref f_law_take) = true)
    (a_law_letters : PySem.W.nsIn K mainGlobals "_law_letters" = some (some (.ref f_law_letters)))
    (l_law_letters : K.lookup f_law_letters = some ⟨oc_law_letters, od_law_letters, .func (PySem.W.fnOf "_law_letters" "_law_letters" (defArgs s_law_letters) (defBody s_law_letters) (defScope s_law_letters) .none kV_law_letters dc_law_letters pm_law_letters an_law_letters cd_law_letters ct_law_letters), sl_law_letters⟩)
    (c_law_letters : PySem.W.codeIn K cd_law_letters "_law_letters" = true)
    (k_law_letters : PySem.W.keepIn K (.ref f_law_letters) = true)
    (a_law_pick : PySem.W.nsIn K mainGlobals "_law_pick" = some (some (.ref f_law_pick)))
    (l_law_pick : K.lookup f_law_pick = some ⟨oc_law_pick, od_law_pick, .func (PySem.W.fnOf "_law_pick" "_law_pick" (defArgs s_law_pick) (defBody s_law_pick) (defScope s_law_pick) .none kV_law_pick dc_law_pick pm_law_pick an_law_pick cd_law_pick ct_law_pick), sl_law_pick⟩)
    (c_law_pick : PySem.W.codeIn K cd_law_pick "_law_pick" = true)
    (k_law_pick : PySem.W.keepIn K (.ref f_law_pick) = true)
    (a_law_sets : PySem.W.nsIn K mainGlobals "_law_sets" = some (some (.ref f_law_sets)))
    (l_law_sets : K.lookup f_law_sets = some ⟨oc_law_sets, od_law_sets, .func (PySem.W.fnOf "_law_sets" "_law_sets" (defArgs s_law_sets) (defBody s_law_sets) (defScope s_law_sets) .none kV_law_sets dc_law_sets pm_law_sets an_law_sets cd_law_sets ct_law_sets), sl_law_sets⟩)
    (c_law_sets : PySem.W.codeIn K cd_law_sets "_law_sets" = true)
    (k_law_sets : PySem.W.keepIn K (.ref f_law_sets) = true)
    (a_is_dependence : PySem.W.nsIn K mainGlobals "is_dependence" = some (some (.ref f_is_dependence)))
    (l_is_dependence : K.lookup f_is_dependence = some ⟨oc_is_dependence, od_is_dependence, .func (PySem.W.fnOf "is_dependence" "is_dependence" (defArgs s_is_dependence) (defBody s_is_dependence) (defScope s_is_dependence) .none kV_is_dependence dc_is_dependence pm_is_dependence an_is_dependence cd_is_dependence ct_is_dependence), sl_is_dependence⟩)
    (c_is_dependence : PySem.W.codeIn K cd_is_dependence "is_dependence" = true)
    (k_is_dependence : PySem.W.keepIn K (.ref f_is_dependence) = true)
    (a_need_dependences : PySem.W.nsIn K mainGlobals "need_dependences" = some (some (.ref f_need_dependences)))
    (l_need_dependences : K.lookup f_need_dependences = some ⟨oc_need_dependences, od_need_dependences, .func (PySem.W.fnOf "need_dependences" "need_dependences" (defArgs s_need_dependences) (defBody s_need_dependences) (defScope s_need_dependences) .none kV_need_dependences dc_need_dependences pm_need_dependences an_need_dependences cd_need_dependences ct_need_dependences), sl_need_dependences⟩)
    (c_need_dependences : PySem.W.codeIn K cd_need_dependences "need_dependences" = true)
    (k_need_dependences : PySem.W.keepIn K (.ref f_need_dependences) = true)
    (a_is_columns : PySem.W.nsIn K mainGlobals "is_columns" = some (some (.ref f_is_columns)))
    (l_is_columns : K.lookup f_is_columns = some ⟨oc_is_columns, od_is_columns, .func (PySem.W.fnOf "is_columns" "is_columns" (defArgs s_is_columns) (defBody s_is_columns) (defScope s_is_columns) .none kV_is_columns dc_is_columns pm_is_columns an_is_columns cd_is_columns ct_is_columns), sl_is_columns⟩)
    (c_is_columns : PySem.W.codeIn K cd_is_columns "is_columns" = true)
    (k_is_columns : PySem.W.keepIn K (.ref f_is_columns) = true)
    (a_need_columns : PySem.W.nsIn K mainGlobals "need_columns" = some (some (.ref f_need_columns)))
    (l_need_columns : K.lookup f_need_columns = some ⟨oc_need_columns, od_need_columns, .func (PySem.W.fnOf "need_columns" "need_columns" (defArgs s_need_columns) (defBody s_need_columns) (defScope s_need_columns) .none kV_need_columns dc_need_columns pm_need_columns an_need_columns cd_need_columns ct_need_columns), sl_need_columns⟩)
    (c_need_columns : PySem.W.codeIn K cd_need_columns "need_columns" = true)
    (k_need_columns : PySem.W.keepIn K (.ref f_need_columns) = true)
    (a_Scheme_init : PySem.W.findIn K (.ref C_Scheme) "__init__" = some (some (.ref f_Scheme_init)))
    (i_Scheme_init : PySem.W.isFn K (.ref f_Scheme_init) = true)
    (l_Scheme_init : K.lookup f_Scheme_init = some ⟨oc_Scheme_init, od_Scheme_init, .func (PySem.W.fnOf "__init__" "Scheme.__init__" (defArgs s_Scheme_init) (defBody s_Scheme_init) (defScope s_Scheme_init) (.ref T_Scheme_init) kV_Scheme_init dc_Scheme_init pm_Scheme_init an_Scheme_init cd_Scheme_init ct_Scheme_init), sl_Scheme_init⟩)
    (c_Scheme_init : PySem.W.codeIn K cd_Scheme_init "Scheme.__init__" = true)
    (k_Scheme_init : PySem.W.keepIn K (.ref f_Scheme_init) = true)
    (lT_Scheme_init : K.lookup T_Scheme_init = some oT_Scheme_init)
    (dT_Scheme_init : oT_Scheme_init.data = .seq #[.ref E_Scheme_init] nT_Scheme_init)
    (lE_Scheme_init : K.lookup E_Scheme_init = some oE_Scheme_init)
    (cE_Scheme_init : oE_Scheme_init.cls = .type "tuple")
    (dE_Scheme_init : oE_Scheme_init.data = .seq #[] nE_Scheme_init)
    (a_Scheme_with_more : PySem.W.findIn K (.ref C_Scheme) "with_more" = some (some (.ref f_Scheme_with_more)))
    (i_Scheme_with_more : PySem.W.isFn K (.ref f_Scheme_with_more) = true)
    (l_Scheme_with_more : K.lookup f_Scheme_with_more = some ⟨oc_Scheme_with_more, od_Scheme_with_more, .func (PySem.W.fnOf "with_more" "Scheme.with_more" (defArgs s_Scheme_with_more) (defBody s_Scheme_with_more) (defScope s_Scheme_with_more) .none kV_Scheme_with_more dc_Scheme_with_more pm_Scheme_with_more an_Scheme_with_more cd_Scheme_with_more ct_Scheme_with_more), sl_Scheme_with_more⟩)
    (c_Scheme_with_more : PySem.W.codeIn K cd_Scheme_with_more "Scheme.with_more" = true)
    (k_Scheme_with_more : PySem.W.keepIn K (.ref f_Scheme_with_more) = true)
    (a_sets_of : PySem.W.nsIn K mainGlobals "sets_of" = some (some (.ref f_sets_of)))
    (l_sets_of : K.lookup f_sets_of = some ⟨oc_sets_of, od_sets_of, .func (PySem.W.fnOf "sets_of" "sets_of" (defArgs s_sets_of) (defBody s_sets_of) (defScope s_sets_of) .none kV_sets_of dc_sets_of pm_sets_of an_sets_of (.ref ca) ct_sets_of), sl_sets_of⟩)
    (c_sets_of : PySem.W.codeIn K (.ref ca) "sets_of" = true)
    (k_sets_of : PySem.W.keepIn K (.ref f_sets_of) = true)
    (a_Scheme_closed_sets : PySem.W.findIn K (.ref C_Scheme) "closed_sets" = some (some (.ref f_Scheme_closed_sets)))
    (i_Scheme_closed_sets : PySem.W.isFn K (.ref f_Scheme_closed_sets) = true)
    (l_Scheme_closed_sets : K.lookup f_Scheme_closed_sets = some ⟨oc_Scheme_closed_sets, od_Scheme_closed_sets, .func (PySem.W.fnOf "closed_sets" "Scheme.closed_sets" (defArgs s_Scheme_closed_sets) (defBody s_Scheme_closed_sets) (defScope s_Scheme_closed_sets) .none kV_Scheme_closed_sets dc_Scheme_closed_sets pm_Scheme_closed_sets an_Scheme_closed_sets cd_Scheme_closed_sets ct_Scheme_closed_sets), sl_Scheme_closed_sets⟩)
    (c_Scheme_closed_sets : PySem.W.codeIn K cd_Scheme_closed_sets "Scheme.closed_sets" = true)
    (k_Scheme_closed_sets : PySem.W.keepIn K (.ref f_Scheme_closed_sets) = true)
    (a_Scheme_eq : PySem.W.findIn K (.ref C_Scheme) "__eq__" = some (some (.ref f_Scheme_eq)))
    (i_Scheme_eq : PySem.W.isFn K (.ref f_Scheme_eq) = true)
    (l_Scheme_eq : K.lookup f_Scheme_eq = some ⟨oc_Scheme_eq, od_Scheme_eq, .func (PySem.W.fnOf "__eq__" "Scheme.__eq__" (defArgs s_Scheme_eq) (defBody s_Scheme_eq) (defScope s_Scheme_eq) .none kV_Scheme_eq dc_Scheme_eq pm_Scheme_eq an_Scheme_eq cd_Scheme_eq ct_Scheme_eq), sl_Scheme_eq⟩)
    (c_Scheme_eq : PySem.W.codeIn K cd_Scheme_eq "Scheme.__eq__" = true)
    (k_Scheme_eq : PySem.W.keepIn K (.ref f_Scheme_eq) = true)
    (a_law_common : PySem.W.nsIn K mainGlobals "_law_common" = some (some (.ref f_law_common)))
    (l_law_common : K.lookup f_law_common = some ⟨oc_law_common, od_law_common, .func (PySem.W.fnOf "_law_common" "_law_common" (defArgs s_law_common) (defBody s_law_common) (defScope s_law_common) .none kV_law_common dc_law_common pm_law_common an_law_common cd_law_common ct_law_common), sl_law_common⟩)
    (c_law_common : PySem.W.codeIn K cd_law_common "_law_common" = true)
    (k_law_common : PySem.W.keepIn K (.ref f_law_common) = true)
    (a_is_number : PySem.W.nsIn K mainGlobals "is_number" = some (some (.ref f_is_number)))
    (l_is_number : K.lookup f_is_number = some ⟨oc_is_number, od_is_number, .func (PySem.W.fnOf "is_number" "is_number" (defArgs s_is_number) (defBody s_is_number) (defScope s_is_number) .none kV_is_number dc_is_number pm_is_number an_is_number cd_is_number ct_is_number), sl_is_number⟩)
    (c_is_number : PySem.W.codeIn K cd_is_number "is_number" = true)
    (k_is_number : PySem.W.keepIn K (.ref f_is_number) = true)
    (a_is_row : PySem.W.nsIn K mainGlobals "is_row" = some (some (.ref f_is_row)))
    (l_is_row : K.lookup f_is_row = some ⟨oc_is_row, od_is_row, .func (PySem.W.fnOf "is_row" "is_row" (defArgs s_is_row) (defBody s_is_row) (defScope s_is_row) .none kV_is_row dc_is_row pm_is_row an_is_row cd_is_row ct_is_row), sl_is_row⟩)
    (c_is_row : PySem.W.codeIn K cd_is_row "is_row" = true)
    (k_is_row : PySem.W.keepIn K (.ref f_is_row) = true)
    (a_need_rows : PySem.W.nsIn K mainGlobals "need_rows" = some (some (.ref f_need_rows)))
    (l_need_rows : K.lookup f_need_rows = some ⟨oc_need_rows, od_need_rows, .func (PySem.W.fnOf "need_rows" "need_rows" (defArgs s_need_rows) (defBody s_need_rows) (defScope s_need_rows) .none kV_need_rows dc_need_rows pm_need_rows an_need_rows cd_need_rows ct_need_rows), sl_need_rows⟩)
    (c_need_rows : PySem.W.codeIn K cd_need_rows "need_rows" = true)
    (k_need_rows : PySem.W.keepIn K (.ref f_need_rows) = true)
    (a_Table_init : PySem.W.findIn K (.ref C_Table) "__init__" = some (some (.ref f_Table_init)))
    (i_Table_init : PySem.W.isFn K (.ref f_Table_init) = true)
    (l_Table_init : K.lookup f_Table_init = some ⟨oc_Table_init, od_Table_init, .func (PySem.W.fnOf "__init__" "Table.__init__" (defArgs s_Table_init) (defBody s_Table_init) (defScope s_Table_init) .none kV_Table_init dc_Table_init pm_Table_init an_Table_init cd_Table_init ct_Table_init), sl_Table_init⟩)
    (c_Table_init : PySem.W.codeIn K cd_Table_init "Table.__init__" = true)
    (k_Table_init : PySem.W.keepIn K (.ref f_Table_init) = true)
    (a_law_named : PySem.W.nsIn K mainGlobals "_law_named" = some (some (.ref f_law_named)))
    (l_law_named : K.lookup f_law_named = some ⟨oc_law_named, od_law_named, .func (PySem.W.fnOf "_law_named" "_law_named" (defArgs s_law_named) (defBody s_law_named) (defScope s_law_named) .none kV_law_named dc_law_named pm_law_named an_law_named cd_law_named ct_law_named), sl_law_named⟩)
    (c_law_named : PySem.W.codeIn K cd_law_named "_law_named" = true)
    (k_law_named : PySem.W.keepIn K (.ref f_law_named) = true)
    (a_law_broken : PySem.W.nsIn K mainGlobals "_law_broken" = some (some (.ref f_law_broken)))
    (l_law_broken : K.lookup f_law_broken = some ⟨oc_law_broken, od_law_broken, .func (PySem.W.fnOf "_law_broken" "_law_broken" (defArgs s_law_broken) (defBody s_law_broken) (defScope s_law_broken) .none kV_law_broken dc_law_broken pm_law_broken an_law_broken cd_law_broken ct_law_broken), sl_law_broken⟩)
    (c_law_broken : PySem.W.codeIn K cd_law_broken "_law_broken" = true)
    (k_law_broken : PySem.W.keepIn K (.ref f_law_broken) = true)
    (a_law_row : PySem.W.nsIn K mainGlobals "_law_row" = some (some (.ref f_law_row)))
    (l_law_row : K.lookup f_law_row = some ⟨oc_law_row, od_law_row, .func (PySem.W.fnOf "_law_row" "_law_row" (defArgs s_law_row) (defBody s_law_row) (defScope s_law_row) .none kV_law_row dc_law_row pm_law_row an_law_row cd_law_row ct_law_row), sl_law_row⟩)
    (c_law_row : PySem.W.codeIn K cd_law_row "_law_row" = true)
    (k_law_row : PySem.W.keepIn K (.ref f_law_row) = true)
    (a_law_fitted : PySem.W.nsIn K mainGlobals "_law_fitted" = some (some (.ref f_law_fitted)))
    (l_law_fitted : K.lookup f_law_fitted = some ⟨oc_law_fitted, od_law_fitted, .func (PySem.W.fnOf "_law_fitted" "_law_fitted" (defArgs s_law_fitted) (defBody s_law_fitted) (defScope s_law_fitted) .none kV_law_fitted dc_law_fitted pm_law_fitted an_law_fitted cd_law_fitted ct_law_fitted), sl_law_fitted⟩)
    (c_law_fitted : PySem.W.codeIn K cd_law_fitted "_law_fitted" = true)
    (k_law_fitted : PySem.W.keepIn K (.ref f_law_fitted) = true)
    (a_law_rows : PySem.W.nsIn K mainGlobals "_law_rows" = some (some (.ref f_law_rows)))
    (l_law_rows : K.lookup f_law_rows = some ⟨oc_law_rows, od_law_rows, .func (PySem.W.fnOf "_law_rows" "_law_rows" (defArgs s_law_rows) (defBody s_law_rows) (defScope s_law_rows) .none kV_law_rows dc_law_rows pm_law_rows an_law_rows cd_law_rows ct_law_rows), sl_law_rows⟩)
    (c_law_rows : PySem.W.codeIn K cd_law_rows "_law_rows" = true)
    (k_law_rows : PySem.W.keepIn K (.ref f_law_rows) = true)
    (a_law_columns : PySem.W.nsIn K mainGlobals "_law_columns" = some (some (.ref f_law_columns)))
    (l_law_columns : K.lookup f_law_columns = some ⟨oc_law_columns, od_law_columns, .func (PySem.W.fnOf "_law_columns" "_law_columns" (defArgs s_law_columns) (defBody s_law_columns) (defScope s_law_columns) .none kV_law_columns dc_law_columns pm_law_columns an_law_columns cd_law_columns ct_law_columns), sl_law_columns⟩)
    (c_law_columns : PySem.W.codeIn K cd_law_columns "_law_columns" = true)
    (k_law_columns : PySem.W.keepIn K (.ref f_law_columns) = true)
    (a_law_drawn : PySem.W.nsIn K mainGlobals "_law_drawn" = some (some (.ref f_law_drawn)))
    (l_law_drawn : K.lookup f_law_drawn = some ⟨oc_law_drawn, od_law_drawn, .func (PySem.W.fnOf "_law_drawn" "_law_drawn" (defArgs s_law_drawn) (defBody s_law_drawn) (defScope s_law_drawn) .none kV_law_drawn dc_law_drawn pm_law_drawn an_law_drawn cd_law_drawn ct_law_drawn), sl_law_drawn⟩)
    (c_law_drawn : PySem.W.codeIn K cd_law_drawn "_law_drawn" = true)
    (k_law_drawn : PySem.W.keepIn K (.ref f_law_drawn) = true)
    (a_law : PySem.W.nsIn K mainGlobals "law" = some (some (.ref f_law)))
    (l_law : K.lookup f_law = some ⟨oc_law, od_law, .func (PySem.W.fnOf "law" "law" (defArgs s_law) (defBody s_law) (defScope s_law) .none kV_law dc_law pm_law an_law cd_law ct_law), sl_law⟩)
    (c_law : PySem.W.codeIn K cd_law "law" = true)
    (k_law : PySem.W.keepIn K (.ref f_law) = true)
    (ch : PySem.W.codeHdIn K ca pa = true)
    (nT : K.lookup pa = none)
    (tb : ∀ P ∈ [pa], h.get? P = some (PySem.W.tabObj #[]))
    (hp : ∀ ns : List Int, ns.length ≤ 63 → (∀ z ∈ ns, Builtin.Int.intBits z ≤ 1048576) → KL.law ns = true) : LG.LawG l w K 9 63 "_law_script" mg fa h := by
  have e := hfa.symm.trans (PySem.W.mg_of X G0 a_law)
  cases e
  letI : Tabl := ⟨[(pa, ("sets_of" : Str) ++ ".<locals>." ++ "<lambda>")]⟩
  have mC_Scheme : mg "Scheme" = some (.ref C_Scheme) := PySem.W.mg_of X G0 aC_Scheme
  have Cl_Scheme : Cls K C_Scheme := ⟨pg_Scheme, hd_Scheme, po_Scheme, sa_Scheme⟩
  have It_Scheme : InsTy K mg "Scheme" C_Scheme := ⟨mC_Scheme, Cl_Scheme, ha_Scheme, hn0, ht0, mr_Scheme⟩
  have mC_Table : mg "Table" = some (.ref C_Table) := PySem.W.mg_of X G0 aC_Table
  have Cl_Table : Cls K C_Table := ⟨pg_Table, hd_Table, po_Table, sa_Table⟩
  have It_Table : InsTy K mg "Table" C_Table := ⟨mC_Table, Cl_Table, ha_Table, hn0, ht0, mr_Table⟩
  have G : Gt K mg := ⟨PySem.W.mg_none_of X G0 z_abs,
    PySem.W.mg_none_of X G0 z_all,
    PySem.W.mg_none_of X G0 z_bool,
    PySem.W.mg_none_of X G0 z_enumerate,
    PySem.W.mg_none_of X G0 z_int,
    PySem.W.mg_none_of X G0 z_isinstance,
    PySem.W.mg_none_of X G0 z_len,
    PySem.W.mg_none_of X G0 z_list,
    PySem.W.mg_none_of X G0 z_min,
    PySem.W.mg_none_of X G0 z_range,
    PySem.W.mg_none_of X G0 z_set,
    PySem.W.mg_none_of X G0 z_sorted,
    PySem.W.mg_none_of X G0 z_str,
    PySem.W.mg_none_of X G0 z_tuple,
    PySem.W.mg_none_of X G0 z_zip,
    ⟨⟨_, .str "abcd", PySem.W.mg_of X G0 g_ALL_COLUMNS, ⟨_, rfl⟩, fun _ _ => .str _⟩⟩,
    ⟨⟨_, .int 20, PySem.W.mg_of X G0 g_MOST_DEPENDENCES, ⟨_, rfl⟩, fun _ _ => .int _⟩⟩,
    ⟨⟨_, .str "r", PySem.W.mg_of X G0 g_ROW, ⟨_, rfl⟩, fun _ _ => .str _⟩⟩,
    ⟨⟨C_Scheme, mC_Scheme, Cl_Scheme, na_Scheme_own_columns⟩⟩,
    ⟨⟨C_Scheme, mC_Scheme, Cl_Scheme, na_Scheme_own_dependences⟩⟩,
    ⟨⟨C_Table, mC_Table, Cl_Table, na_Table_own_columns⟩⟩,
    ⟨⟨C_Table, mC_Table, Cl_Table, na_Table_own_rows⟩⟩,
    ⟨fun T hT => kit_ty (kb_str T hT), fun p hp => by
      simp only [ic_str, List.mem_cons, List.not_mem_nil, or_false] at hp
      rcases hp with rfl | rfl
      · exact ⟨C_Scheme, It_Scheme, kk_str_Scheme⟩
      · exact ⟨C_Table, It_Table, kk_str_Table⟩⟩,
    ⟨fun T hT => by
      simp only [List.mem_cons, List.not_mem_nil, or_false] at hT
      rcases hT with rfl | rfl | rfl | rfl | rfl | rfl | rfl
      · exact kitAny_cons (b := false) (kit_ty (by decide +kernel)) (fun _ => kitAny_cons (b := false) (kit_ty (by decide +kernel)) (fun _ => kitAny_nil) (by decide)) (by decide)
      · exact kitAny_cons (b := false) (kit_ty (by decide +kernel)) (fun _ => kitAny_cons (b := false) (kit_ty (by decide +kernel)) (fun _ => kitAny_nil) (by decide)) (by decide)
      · exact kitAny_cons (b := false) (kit_ty (by decide +kernel)) (fun _ => kitAny_cons (b := false) (kit_ty (by decide +kernel)) (fun _ => kitAny_nil) (by decide)) (by decide)
      · exact kitAny_cons (b := false) (kit_ty (by decide +kernel)) (fun _ => kitAny_cons (b := false) (kit_ty (by decide +kernel)) (fun _ => kitAny_nil) (by decide)) (by decide)
      · exact kitAny_cons (b := false) (kit_ty (by decide +kernel)) (fun _ => kitAny_cons (b := true) (kit_ty (by decide +kernel)) (fun z => by cases z) (by decide)) (by decide)
      · exact kitAny_cons (b := true) (kit_ty (by decide +kernel)) (fun z => by cases z) (by decide)
      · exact kitAny_cons (b := false) (kit_ty (by decide +kernel)) (fun _ => kitAny_cons (b := false) (kit_ty (by decide +kernel)) (fun _ => kitAny_nil) (by decide)) (by decide), fun p hp => by
      simp only [ic_list_tuple, List.mem_cons, List.not_mem_nil, or_false] at hp
      rcases hp with rfl | rfl
      · exact ⟨C_Scheme, It_Scheme, kk_list_tuple_Scheme⟩
      · exact ⟨C_Table, It_Table, kk_list_tuple_Table⟩⟩,
    ⟨fun T hT => kit_ty (kb_tuple T hT), fun p hp => by
      simp only [ic_tuple, List.mem_cons, List.not_mem_nil, or_false] at hp
      rcases hp with rfl | rfl
      · exact ⟨C_Scheme, It_Scheme, kk_tuple_Scheme⟩
      · exact ⟨C_Table, It_Table, kk_tuple_Table⟩⟩,
    ⟨⟨C_Scheme, mC_Scheme, ⟨fun T hT => by
      simp only [List.mem_cons, List.not_mem_nil, or_false] at hT
      rcases hT with rfl | rfl | rfl | rfl | rfl | rfl | rfl
      · exact ki_Scheme_NoneType
      · exact ki_Scheme_bool
      · exact ki_Scheme_int
      · exact ki_Scheme_str
      · exact ki_Scheme_tuple
      · exact ki_Scheme_list
      · exact ki_Scheme_dict, fun p hp => by
      simp only [ic_Scheme, List.mem_cons, List.not_mem_nil, or_false] at hp
      rcases hp with rfl | rfl
      · exact ⟨C_Scheme, It_Scheme, kk_Scheme_Scheme⟩
      · exact ⟨C_Table, It_Table, kk_Scheme_Table⟩⟩⟩⟩,
    ⟨fun T hT => kit_ty (kb_bool T hT), fun p hp => by
      simp only [ic_bool, List.mem_cons, List.not_mem_nil, or_false] at hp
      rcases hp with rfl | rfl
      · exact ⟨C_Scheme, It_Scheme, kk_bool_Scheme⟩
      · exact ⟨C_Table, It_Table, kk_bool_Table⟩⟩,
    ⟨fun T hT => kit_ty (kb_int T hT), fun p hp => by
      simp only [ic_int, List.mem_cons, List.not_mem_nil, or_false] at hp
      rcases hp with rfl | rfl
      · exact ⟨C_Scheme, It_Scheme, kk_int_Scheme⟩
      · exact ⟨C_Table, It_Table, kk_int_Table⟩⟩⟩
  have F_law_begun := fun_mk (st := s_law_begun) l_law_begun c_law_begun k_law_begun
  have b_law_begun := F_law_begun.binds (ps := ["_law_script"]) fun _ _ _ _ _ _ us hl => match us, hl with | [_], _ => rfl
  have F_Scheme_dependences := fun_mk (st := s_Scheme_dependences) l_Scheme_dependences c_Scheme_dependences k_Scheme_dependences
  have b_Scheme_dependences := F_Scheme_dependences.binds (ps := ["self"]) fun _ _ _ _ _ _ us hl => match us, hl with | [_], _ => rfl
  have F_Table_columns := fun_mk (st := s_Table_columns) l_Table_columns c_Table_columns k_Table_columns
  have b_Table_columns := F_Table_columns.binds (ps := ["self"]) fun _ _ _ _ _ _ us hl => match us, hl with | [_], _ => rfl
  have F_Table_rows := fun_mk (st := s_Table_rows) l_Table_rows c_Table_rows k_Table_rows
  have b_Table_rows := F_Table_rows.binds (ps := ["self"]) fun _ _ _ _ _ _ us hl => match us, hl with | [_], _ => rfl
  have F_name_at := fun_mk (st := s_name_at) l_name_at c_name_at k_name_at
  have b_name_at := F_name_at.binds (ps := ["table", "letters", "at"]) fun _ _ _ _ _ _ us hl => match us, hl with | [_, _, _], _ => rfl
  have F_rises := fun_mk (st := s_rises) l_rises c_rises k_rises
  have b_rises := F_rises.binds (ps := ["letters"]) fun _ _ _ _ _ _ us hl => match us, hl with | [_], _ => rfl
  have F_is_set := fun_mk (st := s_is_set) l_is_set c_is_set k_is_set
  have b_is_set := F_is_set.binds (ps := ["columns", "thing"]) fun _ _ _ _ _ _ us hl => match us, hl with | [_, _], _ => rfl
  have F_need_set := fun_mk (st := s_need_set) l_need_set c_need_set k_need_set
  have b_need_set := F_need_set.binds (ps := ["columns", "letters"]) fun _ _ _ _ _ _ us hl => match us, hl with | [_, _], _ => rfl
  have F_Table_groups := fun_mk (st := s_Table_groups) l_Table_groups c_Table_groups k_Table_groups
  have b_Table_groups := F_Table_groups.binds (ps := ["self", "letters"]) fun _ _ _ _ _ _ us hl => match us, hl with | [_, _], _ => rfl
  have F_Table_keeps := fun_mk (st := s_Table_keeps) l_Table_keeps c_Table_keeps k_Table_keeps
  have b_Table_keeps := F_Table_keeps.binds (ps := ["self", "lower", "letter"]) fun _ _ _ _ _ _ us hl => match us, hl with | [_, _, _], _ => rfl
  have F_Scheme_columns := fun_mk (st := s_Scheme_columns) l_Scheme_columns c_Scheme_columns k_Scheme_columns
  have b_Scheme_columns := F_Scheme_columns.binds (ps := ["self"]) fun _ _ _ _ _ _ us hl => match us, hl with | [_], _ => rfl
  have F_Table_broken := fun_mk (st := s_Table_broken) l_Table_broken c_Table_broken k_Table_broken
  have b_Table_broken := F_Table_broken.binds (ps := ["self", "scheme"]) fun _ _ _ _ _ _ us hl => match us, hl with | [_, _], _ => rfl
  have F_law_is_within := fun_mk (st := s_law_is_within) l_law_is_within c_law_is_within k_law_is_within
  have b_law_is_within := F_law_is_within.binds (ps := ["_law_one", "_law_other"]) fun _ _ _ _ _ _ us hl => match us, hl with | [_, _], _ => rfl
  have F_within := fun_mk (st := s_within) l_within c_within k_within
  have b_within := F_within.binds (ps := ["one", "other"]) fun _ _ _ _ _ _ us hl => match us, hl with | [_, _], _ => rfl
  have F_joined := fun_mk (st := s_joined) l_joined c_joined k_joined
  have b_joined := F_joined.binds (ps := ["one", "other"]) fun _ _ _ _ _ _ us hl => match us, hl with | [_, _], _ => rfl
  have F_closure_of := fun_mk (st := s_closure_of) l_closure_of c_closure_of k_closure_of
  have b_closure_of := F_closure_of.binds (ps := ["columns", "dependences", "letters"]) fun _ _ _ _ _ _ us hl => match us, hl with | [_, _, _], _ => rfl
  have F_Scheme_closure := fun_mk (st := s_Scheme_closure) l_Scheme_closure c_Scheme_closure k_Scheme_closure
  have b_Scheme_closure := F_Scheme_closure.binds (ps := ["self", "letters"]) fun _ _ _ _ _ _ us hl => match us, hl with | [_, _], _ => rfl
  have F_law_mixed := fun_mk (st := s_law_mixed) l_law_mixed c_law_mixed k_law_mixed
  have b_law_mixed := F_law_mixed.binds (ps := ["_law_draw"]) fun _ _ _ _ _ _ us hl => match us, hl with | [_], _ => rfl
  have F_law_take := fun_mk (st := s_law_take) l_law_take c_law_take k_law_take
  have b_law_take := F_law_take.binds (ps := ["_law_draw", "_law_size"]) fun _ _ _ _ _ _ us hl => match us, hl with | [_, _], _ => rfl
  have F_law_letters := fun_mk (st := s_law_letters) l_law_letters c_law_letters k_law_letters
  have b_law_letters := F_law_letters.binds (ps := ["_law_draw", "_law_some"]) fun _ _ _ _ _ _ us hl => match us, hl with | [_, _], _ => rfl
  have F_law_pick := fun_mk (st := s_law_pick) l_law_pick c_law_pick k_law_pick
  have b_law_pick := F_law_pick.binds (ps := ["_law_draw", "_law_some"]) fun _ _ _ _ _ _ us hl => match us, hl with | [_, _], _ => rfl
  have F_law_sets := fun_mk (st := s_law_sets) l_law_sets c_law_sets k_law_sets
  have b_law_sets := F_law_sets.binds (ps := ["_law_columns_here"]) fun _ _ _ _ _ _ us hl => match us, hl with | [_], _ => rfl
  have F_is_dependence := fun_mk (st := s_is_dependence) l_is_dependence c_is_dependence k_is_dependence
  have b_is_dependence := F_is_dependence.binds (ps := ["columns", "thing"]) fun _ _ _ _ _ _ us hl => match us, hl with | [_, _], _ => rfl
  have F_need_dependences := fun_mk (st := s_need_dependences) l_need_dependences c_need_dependences k_need_dependences
  have b_need_dependences := F_need_dependences.binds (ps := ["columns", "dependences"]) fun _ _ _ _ _ _ us hl => match us, hl with | [_, _], _ => rfl
  have F_is_columns := fun_mk (st := s_is_columns) l_is_columns c_is_columns k_is_columns
  have b_is_columns := F_is_columns.binds (ps := ["thing"]) fun _ _ _ _ _ _ us hl => match us, hl with | [_], _ => rfl
  have F_need_columns := fun_mk (st := s_need_columns) l_need_columns c_need_columns k_need_columns
  have b_need_columns := F_need_columns.binds (ps := ["given"]) fun _ _ _ _ _ _ us hl => match us, hl with | [_], _ => rfl
  have F_Scheme_init : FunD K "__init__" "Scheme.__init__" (defArgs s_Scheme_init) (defBody s_Scheme_init) (defScope s_Scheme_init) [.ref E_Scheme_init] [] f_Scheme_init _ := ⟨⟨_, _, _, _, _, _, _, _, _, _, rfl, l_Scheme_init, c_Scheme_init, .inr ⟨by simp, T_Scheme_init, oT_Scheme_init, [.ref E_Scheme_init], nT_Scheme_init, rfl, lT_Scheme_init, dT_Scheme_init, .cons rfl .nil⟩, .inl rfl⟩, k_Scheme_init⟩
  have rE_Scheme_init : ∀ da G, Rep ⟨K, mg⟩ da G (.ref E_Scheme_init) (.ktup []) := fun da G => .ktup (.inr ⟨oE_Scheme_init, #[], nE_Scheme_init, lE_Scheme_init, cE_Scheme_init, dE_Scheme_init, Nat.zero_le _, .nil⟩) .nil
  have F_Scheme_with_more := fun_mk (st := s_Scheme_with_more) l_Scheme_with_more c_Scheme_with_more k_Scheme_with_more
  have b_Scheme_with_more := F_Scheme_with_more.binds (ps := ["self", "dependences"]) fun _ _ _ _ _ _ us hl => match us, hl with | [_, _], _ => rfl
  have F_sets_of := fun_mk (st := s_sets_of) l_sets_of c_sets_of k_sets_of
  have b_sets_of := F_sets_of.binds (ps := ["columns"]) fun _ _ _ _ _ _ us hl => match us, hl with | [_], _ => rfl
  have F_Scheme_closed_sets := fun_mk (st := s_Scheme_closed_sets) l_Scheme_closed_sets c_Scheme_closed_sets k_Scheme_closed_sets
  have b_Scheme_closed_sets := F_Scheme_closed_sets.binds (ps := ["self"]) fun _ _ _ _ _ _ us hl => match us, hl with | [_], _ => rfl
  have F_Scheme_eq := fun_mk (st := s_Scheme_eq) l_Scheme_eq c_Scheme_eq k_Scheme_eq
  have b_Scheme_eq := F_Scheme_eq.binds (ps := ["self", "other"]) fun _ _ _ _ _ _ us hl => match us, hl with | [_, _], _ => rfl
  have F_law_common := fun_mk (st := s_law_common) l_law_common c_law_common k_law_common
  have b_law_common := F_law_common.binds (ps := ["_law_some", "_law_letters_here"]) fun _ _ _ _ _ _ us hl => match us, hl with | [_, _], _ => rfl
  have F_is_number := fun_mk (st := s_is_number) l_is_number c_is_number k_is_number
  have b_is_number := F_is_number.binds (ps := ["thing"]) fun _ _ _ _ _ _ us hl => match us, hl with | [_], _ => rfl
  have F_is_row := fun_mk (st := s_is_row) l_is_row c_is_row k_is_row
  have b_is_row := F_is_row.binds (ps := ["columns", "thing"]) fun _ _ _ _ _ _ us hl => match us, hl with | [_, _], _ => rfl
  have F_need_rows := fun_mk (st := s_need_rows) l_need_rows c_need_rows k_need_rows
  have b_need_rows := F_need_rows.binds (ps := ["columns", "rows"]) fun _ _ _ _ _ _ us hl => match us, hl with | [_, _], _ => rfl
  have F_Table_init := fun_mk (st := s_Table_init) l_Table_init c_Table_init k_Table_init
  have FI_Table_init : FunD K "__init__" "Table.__init__" (defArgs s_Table_init) (defBody s_Table_init) (defScope s_Table_init) [] [] f_Table_init _ := ⟨⟨_, _, _, _, _, _, _, _, _, _, rfl, l_Table_init, c_Table_init, .inl ⟨rfl, rfl⟩, .inl rfl⟩, k_Table_init⟩
  have b_Table_init := F_Table_init.binds (ps := ["self", "columns", "rows"]) fun _ _ _ _ _ _ us hl => match us, hl with | [_, _, _], _ => rfl
  have F_law_named := fun_mk (st := s_law_named) l_law_named c_law_named k_law_named
  have b_law_named := F_law_named.binds (ps := ["_law_plan", "_law_some", "_law_chosen", "_law_at"]) fun _ _ _ _ _ _ us hl => match us, hl with | [_, _, _, _], _ => rfl
  have F_law_broken := fun_mk (st := s_law_broken) l_law_broken c_law_broken k_law_broken
  have b_law_broken := F_law_broken.binds (ps := ["_law_plan", "_law_some"]) fun _ _ _ _ _ _ us hl => match us, hl with | [_, _], _ => rfl
  have F_law_row := fun_mk (st := s_law_row) l_law_row c_law_row k_law_row
  have b_law_row := F_law_row.binds (ps := ["_law_draw", "_law_keys", "_law_kind"]) fun _ _ _ _ _ _ us hl => match us, hl with | [_, _, _], _ => rfl
  have F_law_fitted := fun_mk (st := s_law_fitted) l_law_fitted c_law_fitted k_law_fitted
  have b_law_fitted := F_law_fitted.binds (ps := ["_law_plan", "_law_some", "_law_keys"]) fun _ _ _ _ _ _ us hl => match us, hl with | [_, _, _], _ => rfl
  have F_law_rows := fun_mk (st := s_law_rows) l_law_rows c_law_rows k_law_rows
  have b_law_rows := F_law_rows.binds (ps := ["_law_draw", "_law_plan", "_law_most", "_law_kind"]) fun _ _ _ _ _ _ us hl => match us, hl with | [_, _, _, _], _ => rfl
  have F_law_columns := fun_mk (st := s_law_columns) l_law_columns c_law_columns k_law_columns
  have b_law_columns := F_law_columns.binds (ps := ["_law_draw", "_law_most"]) fun _ _ _ _ _ _ us hl => match us, hl with | [_, _], _ => rfl
  have F_law_drawn := fun_mk (st := s_law_drawn) l_law_drawn c_law_drawn k_law_drawn
  have b_law_drawn := F_law_drawn.binds (ps := ["_law_draw", "_law_most", "_law_ties"]) fun _ _ _ _ _ _ us hl => match us, hl with | [_, _, _], _ => rfl
  have F_law := fun_mk (st := s_law) l_law c_law k_law
  have b_law := F_law.binds (ps := ["_law_script"]) fun _ _ _ _ _ _ us hl => match us, hl with | [_], _ => rfl
  refine ⟨PySem.W.fnOf "law" "law" (defArgs s_law) (defBody s_law) (defScope s_law) .none kV_law dc_law pm_law an_law cd_law ct_law, [(ca, pa)], spL ⟨K, mg⟩ law, ?_, fun s v => .of_eq rfl, fun H a ns ok hT hS => ⟨a, ns, rfl, hS, ?_, hp ns ok.1 ok.2, fun _ => rfl⟩, fun base KB NB TB => ?_⟩
  · intro p hp
    rw [List.mem_singleton.mp hp]
    exact ⟨tb pa List.mem_cons_self, nT, PySem.W.codeHd_of_K X ch⟩
  · intro p hp
    have e : p = (pa, _) := List.mem_singleton.mp hp
    rw [e]
    exact LamX.TabS.nil (hT (ca, pa) List.mem_cons_self)
  have o_law_begun := ok_law_begun (P := l.prog) (w := w) (base := base) G F_law_begun
  have o_Scheme_dependences := ok_Scheme_dependences (P := l.prog) (w := w) (base := base) G F_Scheme_dependences
  have q_p_Scheme_dependences : PrpD l.prog w K mg base 2 "Scheme" "dependences" D_Scheme_dependences := ⟨⟨C_Scheme, p_Scheme_dependences, _, _, _, mC_Scheme, Cl_Scheme, ⟨a_Scheme_dependences, pg_Scheme_dependences, pt_Scheme_dependences, ⟨_, pr_Scheme_dependences⟩⟩, o_Scheme_dependences, b_Scheme_dependences⟩⟩
  have o_Table_columns := ok_Table_columns (P := l.prog) (w := w) (base := base) G F_Table_columns
  have q_p_Table_columns : PrpD l.prog w K mg base 2 "Table" "columns" D_Table_columns := ⟨⟨C_Table, p_Table_columns, _, _, _, mC_Table, Cl_Table, ⟨a_Table_columns, pg_Table_columns, pt_Table_columns, ⟨_, pr_Table_columns⟩⟩, o_Table_columns, b_Table_columns⟩⟩
  have o_Table_rows := ok_Table_rows (P := l.prog) (w := w) (base := base) G F_Table_rows
  have q_p_Table_rows : PrpD l.prog w K mg base 2 "Table" "rows" D_Table_rows := ⟨⟨C_Table, p_Table_rows, _, _, _, mC_Table, Cl_Table, ⟨a_Table_rows, pg_Table_rows, pt_Table_rows, ⟨_, pr_Table_rows⟩⟩, o_Table_rows, b_Table_rows⟩⟩
  have o_name_at := ok_name_at (P := l.prog) (w := w) (base := base) G F_name_at q_p_Table_columns q_p_Table_rows
  have q_name_at : CalD l.prog w K mg base 4 "name_at" 3 [] D_name_at := ⟨⟨_, _, _, [], [], o_name_at, PySem.W.mg_of X G0 a_name_at, k_name_at, b_name_at, .nil, fun _ _ => .nil⟩⟩
  have o_rises := ok_rises (P := l.prog) (w := w) (base := base) G F_rises
  have q_rises : CalD l.prog w K mg base 2 "rises" 1 [] D_rises := ⟨⟨_, _, _, [], [], o_rises, PySem.W.mg_of X G0 a_rises, k_rises, b_rises, .nil, fun _ _ => .nil⟩⟩
  have o_is_set := ok_is_set (P := l.prog) (w := w) (base := base) G F_is_set q_rises
  have q_is_set : CalD l.prog w K mg base 3 "is_set" 2 [] D_is_set := ⟨⟨_, _, _, [], [], o_is_set, PySem.W.mg_of X G0 a_is_set, k_is_set, b_is_set, .nil, fun _ _ => .nil⟩⟩
  have o_need_set := ok_need_set (P := l.prog) (w := w) (base := base) G F_need_set q_is_set
  have q_need_set : CalD l.prog w K mg base 4 "need_set" 2 [] D_need_set := ⟨⟨_, _, _, [], [], o_need_set, PySem.W.mg_of X G0 a_need_set, k_need_set, b_need_set, .nil, fun _ _ => .nil⟩⟩
  have o_Table_groups := ok_Table_groups (P := l.prog) (w := w) (base := base) G F_Table_groups q_name_at q_need_set
  have q_m_Table_groups : MetD l.prog w K mg base 5 "Table" "groups" 2 [] D_Table_groups := ⟨⟨C_Table, _, _, _, [], [], mC_Table, Cl_Table, ⟨a_Table_groups, i_Table_groups, k_Table_groups⟩, o_Table_groups, b_Table_groups, .nil, fun _ _ => .nil⟩⟩
  have o_Table_keeps := ok_Table_keeps (P := l.prog) (w := w) (base := base) G F_Table_keeps q_m_Table_groups q_name_at
  have q_m_Table_keeps : MetD l.prog w K mg base 6 "Table" "keeps" 3 [] D_Table_keeps := ⟨⟨C_Table, _, _, _, [], [], mC_Table, Cl_Table, ⟨a_Table_keeps, i_Table_keeps, k_Table_keeps⟩, o_Table_keeps, b_Table_keeps, .nil, fun _ _ => .nil⟩⟩
  have o_Scheme_columns := ok_Scheme_columns (P := l.prog) (w := w) (base := base) G F_Scheme_columns
  have q_p_Scheme_columns : PrpD l.prog w K mg base 2 "Scheme" "columns" D_Scheme_columns := ⟨⟨C_Scheme, p_Scheme_columns, _, _, _, mC_Scheme, Cl_Scheme, ⟨a_Scheme_columns, pg_Scheme_columns, pt_Scheme_columns, ⟨_, pr_Scheme_columns⟩⟩, o_Scheme_columns, b_Scheme_columns⟩⟩
  have o_Table_broken := ok_Table_broken (P := l.prog) (w := w) (base := base) G F_Table_broken q_p_Scheme_dependences q_m_Table_keeps q_p_Scheme_columns
  have q_m_Table_broken : MetD l.prog w K mg base 7 "Table" "broken" 2 [] D_Table_broken := ⟨⟨C_Table, _, _, _, [], [], mC_Table, Cl_Table, ⟨a_Table_broken, i_Table_broken, k_Table_broken⟩, o_Table_broken, b_Table_broken, .nil, fun _ _ => .nil⟩⟩
  have o_law_is_within := ok_law_is_within (P := l.prog) (w := w) (base := base) G F_law_is_within
  have q_law_is_within : CalD l.prog w K mg base 2 "_law_is_within" 2 [] D_law_is_within := ⟨⟨_, _, _, [], [], o_law_is_within, PySem.W.mg_of X G0 a_law_is_within, k_law_is_within, b_law_is_within, .nil, fun _ _ => .nil⟩⟩
  have o_within := ok_within (P := l.prog) (w := w) (base := base) G F_within
  have q_within : CalD l.prog w K mg base 2 "within" 2 [] D_within := ⟨⟨_, _, _, [], [], o_within, PySem.W.mg_of X G0 a_within, k_within, b_within, .nil, fun _ _ => .nil⟩⟩
  have o_joined := ok_joined (P := l.prog) (w := w) (base := base) G F_joined
  have q_joined : CalD l.prog w K mg base 2 "joined" 2 [] D_joined := ⟨⟨_, _, _, [], [], o_joined, PySem.W.mg_of X G0 a_joined, k_joined, b_joined, .nil, fun _ _ => .nil⟩⟩
  have o_closure_of := ok_closure_of (P := l.prog) (w := w) (base := base) G F_closure_of q_within q_joined
  have q_closure_of : CalD l.prog w K mg base 3 "closure_of" 3 [] D_closure_of := ⟨⟨_, _, _, [], [], o_closure_of, PySem.W.mg_of X G0 a_closure_of, k_closure_of, b_closure_of, .nil, fun _ _ => .nil⟩⟩
  have o_Scheme_closure := ok_Scheme_closure (P := l.prog) (w := w) (base := base) G F_Scheme_closure q_closure_of q_need_set
  have q_m_Scheme_closure : MetD l.prog w K mg base 5 "Scheme" "closure" 2 [] D_Scheme_closure := ⟨⟨C_Scheme, _, _, _, [], [], mC_Scheme, Cl_Scheme, ⟨a_Scheme_closure, i_Scheme_closure, k_Scheme_closure⟩, o_Scheme_closure, b_Scheme_closure, .nil, fun _ _ => .nil⟩⟩
  have o_law_mixed := ok_law_mixed (P := l.prog) (w := w) (base := base) G F_law_mixed
  have q_law_mixed : CalD l.prog w K mg base 2 "_law_mixed" 1 [] D_law_mixed := ⟨⟨_, _, _, [], [], o_law_mixed, PySem.W.mg_of X G0 a_law_mixed, k_law_mixed, b_law_mixed, .nil, fun _ _ => .nil⟩⟩
  have o_law_take := ok_law_take (P := l.prog) (w := w) (base := base) G F_law_take q_law_mixed
  have q_law_take : CalD l.prog w K mg base 3 "_law_take" 2 [] D_law_take := ⟨⟨_, _, _, [], [], o_law_take, PySem.W.mg_of X G0 a_law_take, k_law_take, b_law_take, .nil, fun _ _ => .nil⟩⟩
  have o_law_letters := ok_law_letters (P := l.prog) (w := w) (base := base) G F_law_letters q_law_take
  have q_law_letters : CalD l.prog w K mg base 4 "_law_letters" 2 [] D_law_letters := ⟨⟨_, _, _, [], [], o_law_letters, PySem.W.mg_of X G0 a_law_letters, k_law_letters, b_law_letters, .nil, fun _ _ => .nil⟩⟩
  have o_law_pick := ok_law_pick (P := l.prog) (w := w) (base := base) G F_law_pick q_law_take
  have q_law_pick : CalD l.prog w K mg base 4 "_law_pick" 2 [] D_law_pick := ⟨⟨_, _, _, [], [], o_law_pick, PySem.W.mg_of X G0 a_law_pick, k_law_pick, b_law_pick, .nil, fun _ _ => .nil⟩⟩
  have o_law_sets := ok_law_sets (P := l.prog) (w := w) (base := base) G F_law_sets
  have q_law_sets : CalD l.prog w K mg base 2 "_law_sets" 1 [] D_law_sets := ⟨⟨_, _, _, [], [], o_law_sets, PySem.W.mg_of X G0 a_law_sets, k_law_sets, b_law_sets, .nil, fun _ _ => .nil⟩⟩
  have o_is_dependence := ok_is_dependence (P := l.prog) (w := w) (base := base) G F_is_dependence q_is_set
  have q_is_dependence : CalD l.prog w K mg base 4 "is_dependence" 2 [] D_is_dependence := ⟨⟨_, _, _, [], [], o_is_dependence, PySem.W.mg_of X G0 a_is_dependence, k_is_dependence, b_is_dependence, .nil, fun _ _ => .nil⟩⟩
  have o_need_dependences := ok_need_dependences (P := l.prog) (w := w) (base := base) G F_need_dependences q_is_dependence
  have q_need_dependences : CalD l.prog w K mg base 5 "need_dependences" 2 [] D_need_dependences := ⟨⟨_, _, _, [], [], o_need_dependences, PySem.W.mg_of X G0 a_need_dependences, k_need_dependences, b_need_dependences, .nil, fun _ _ => .nil⟩⟩
  have o_is_columns := ok_is_columns (P := l.prog) (w := w) (base := base) G F_is_columns q_rises
  have q_is_columns : CalD l.prog w K mg base 3 "is_columns" 1 [] D_is_columns := ⟨⟨_, _, _, [], [], o_is_columns, PySem.W.mg_of X G0 a_is_columns, k_is_columns, b_is_columns, .nil, fun _ _ => .nil⟩⟩
  have o_need_columns := ok_need_columns (P := l.prog) (w := w) (base := base) G F_need_columns q_is_columns
  have q_need_columns : CalD l.prog w K mg base 4 "need_columns" 1 [] D_need_columns := ⟨⟨_, _, _, [], [], o_need_columns, PySem.W.mg_of X G0 a_need_columns, k_need_columns, b_need_columns, .nil, fun _ _ => .nil⟩⟩
  have o_Scheme_init := ok_Scheme_init (P := l.prog) (w := w) (base := base) G F_Scheme_init q_need_dependences q_need_columns
  obtain ⟨ds_Scheme_init_2, vd_Scheme_init_2, bd_Scheme_init_2⟩ := F_Scheme_init.binds1 (ps := ["self", "columns", "dependences"]) 3 1 (by simp) rfl (fun T kV doc pm an cdv ct us its h1 h2 => match us, its, h1, h2 with | [_, _, _], [_], _, _ => ⟨_, rfl, rfl⟩)
  have q_k_Scheme_init_2 : MakD l.prog w K mg base 6 "Scheme" 3 [] I_Scheme := ⟨⟨C_Scheme, _, _, _, ds_Scheme_init_2, [], ⟨mk_Scheme, a_Scheme_init, i_Scheme_init, kc_Scheme⟩, o_Scheme_init, mC_Scheme, bd_Scheme_init_2, vd_Scheme_init_2, fun _ _ => .nil⟩⟩
  have o_Scheme_with_more := ok_Scheme_with_more (P := l.prog) (w := w) (base := base) G F_Scheme_with_more q_k_Scheme_init_2 q_need_dependences
  have q_m_Scheme_with_more : MetD l.prog w K mg base 8 "Scheme" "with_more" 2 [] D_Scheme_with_more := ⟨⟨C_Scheme, _, _, _, [], [], mC_Scheme, Cl_Scheme, ⟨a_Scheme_with_more, i_Scheme_with_more, k_Scheme_with_more⟩, o_Scheme_with_more, b_Scheme_with_more, .nil, fun _ _ => .nil⟩⟩
  have o_sets_of := ok_sets_of (P := l.prog) (w := w) (base := base) G F_sets_of (TB (ca, pa) List.mem_cons_self) (fun _ _ _ _ _ _ _ _ _ z => by rw [l_sets_of] at z; cases z; rfl) List.mem_cons_self (fun p hp _ => by rw [List.mem_singleton.mp hp])
  have q_sets_of : CalD l.prog w K mg base 5 "sets_of" 1 [] D_sets_of := ⟨⟨_, _, _, [], [], o_sets_of, PySem.W.mg_of X G0 a_sets_of, k_sets_of, b_sets_of, .nil, fun _ _ => .nil⟩⟩
  have o_Scheme_closed_sets := ok_Scheme_closed_sets (P := l.prog) (w := w) (base := base) G F_Scheme_closed_sets q_sets_of q_m_Scheme_closure
  have q_m_Scheme_closed_sets : MetD l.prog w K mg base 6 "Scheme" "closed_sets" 1 [] D_Scheme_closed_sets := ⟨⟨C_Scheme, _, _, _, [], [], mC_Scheme, Cl_Scheme, ⟨a_Scheme_closed_sets, i_Scheme_closed_sets, k_Scheme_closed_sets⟩, o_Scheme_closed_sets, b_Scheme_closed_sets, .nil, fun _ _ => .nil⟩⟩
  have o_Scheme_eq := ok_Scheme_eq (P := l.prog) (w := w) (base := base) G F_Scheme_eq q_m_Scheme_closed_sets
  have q_q_Scheme_eq : EqsD l.prog w K mg base 7 "Scheme" icq_Scheme D_Scheme_eq := ⟨⟨C_Scheme, _, _, _, mC_Scheme, ne_Scheme, so_Scheme, a_Scheme_eq, i_Scheme_eq, o_Scheme_eq, b_Scheme_eq, ⟨fun T hT => by
      simp only [List.mem_cons, List.not_mem_nil, or_false] at hT
      rcases hT with rfl | rfl | rfl | rfl | rfl | rfl | rfl
      · exact ⟨nf_Scheme_NoneType, rfl⟩
      · exact ⟨nf_Scheme_bool, rfl⟩
      · exact ⟨nf_Scheme_int, rfl⟩
      · exact ⟨nf_Scheme_str, rfl⟩
      · exact ⟨nf_Scheme_tuple, rfl⟩
      · exact ⟨nf_Scheme_list, rfl⟩
      · exact ⟨nf_Scheme_dict, rfl⟩, fun p hp => by
      simp only [icq_Scheme, List.mem_cons, List.not_mem_nil, or_false] at hp
      rcases hp with rfl | rfl
      · exact ⟨C_Scheme, It_Scheme, ⟨nfi_Scheme_Scheme, rfl⟩⟩
      · exact ⟨C_Table, It_Table, ⟨nfi_Scheme_Table, rfl⟩⟩⟩⟩⟩
  have o_law_common := ok_law_common (P := l.prog) (w := w) (base := base) G F_law_common
  have q_law_common : CalD l.prog w K mg base 2 "_law_common" 2 [] D_law_common := ⟨⟨_, _, _, [], [], o_law_common, PySem.W.mg_of X G0 a_law_common, k_law_common, b_law_common, .nil, fun _ _ => .nil⟩⟩
  have o_is_number := ok_is_number (P := l.prog) (w := w) (base := base) G F_is_number
  have q_is_number : CalD l.prog w K mg base 2 "is_number" 1 [] D_is_number := ⟨⟨_, _, _, [], [], o_is_number, PySem.W.mg_of X G0 a_is_number, k_is_number, b_is_number, .nil, fun _ _ => .nil⟩⟩
  have o_is_row := ok_is_row (P := l.prog) (w := w) (base := base) G F_is_row q_is_number
  have q_is_row : CalD l.prog w K mg base 3 "is_row" 2 [] D_is_row := ⟨⟨_, _, _, [], [], o_is_row, PySem.W.mg_of X G0 a_is_row, k_is_row, b_is_row, .nil, fun _ _ => .nil⟩⟩
  have o_need_rows := ok_need_rows (P := l.prog) (w := w) (base := base) G F_need_rows q_is_row
  have q_need_rows : CalD l.prog w K mg base 4 "need_rows" 2 [] D_need_rows := ⟨⟨_, _, _, [], [], o_need_rows, PySem.W.mg_of X G0 a_need_rows, k_need_rows, b_need_rows, .nil, fun _ _ => .nil⟩⟩
  have o_Table_init := ok_Table_init (P := l.prog) (w := w) (base := base) G FI_Table_init q_need_rows q_need_columns
  have q_k_Table_init_2 : MakD l.prog w K mg base 5 "Table" 3 [] I_Table := ⟨⟨C_Table, _, _, _, [], [], ⟨mk_Table, a_Table_init, i_Table_init, kc_Table⟩, o_Table_init, mC_Table, b_Table_init, .nil, fun _ _ => .nil⟩⟩
  have o_law_named := ok_law_named (P := l.prog) (w := w) (base := base) G F_law_named
  have q_law_named : CalD l.prog w K mg base 2 "_law_named" 4 [] D_law_named := ⟨⟨_, _, _, [], [], o_law_named, PySem.W.mg_of X G0 a_law_named, k_law_named, b_law_named, .nil, fun _ _ => .nil⟩⟩
  have o_law_broken := ok_law_broken (P := l.prog) (w := w) (base := base) G F_law_broken q_law_named
  have q_law_broken : CalD l.prog w K mg base 3 "_law_broken" 2 [] D_law_broken := ⟨⟨_, _, _, [], [], o_law_broken, PySem.W.mg_of X G0 a_law_broken, k_law_broken, b_law_broken, .nil, fun _ _ => .nil⟩⟩
  have o_law_row := ok_law_row (P := l.prog) (w := w) (base := base) G F_law_row q_law_take q_law_pick
  have q_law_row : CalD l.prog w K mg base 5 "_law_row" 3 [] D_law_row := ⟨⟨_, _, _, [], [], o_law_row, PySem.W.mg_of X G0 a_law_row, k_law_row, b_law_row, .nil, fun _ _ => .nil⟩⟩
  have o_law_fitted := ok_law_fitted (P := l.prog) (w := w) (base := base) G F_law_fitted
  have q_law_fitted : CalD l.prog w K mg base 2 "_law_fitted" 3 [] D_law_fitted := ⟨⟨_, _, _, [], [], o_law_fitted, PySem.W.mg_of X G0 a_law_fitted, k_law_fitted, b_law_fitted, .nil, fun _ _ => .nil⟩⟩
  have o_law_rows := ok_law_rows (P := l.prog) (w := w) (base := base) G F_law_rows q_law_take q_law_broken q_law_row q_law_fitted q_law_pick
  have q_law_rows : CalD l.prog w K mg base 6 "_law_rows" 4 [] D_law_rows := ⟨⟨_, _, _, [], [], o_law_rows, PySem.W.mg_of X G0 a_law_rows, k_law_rows, b_law_rows, .nil, fun _ _ => .nil⟩⟩
  have o_law_columns := ok_law_columns (P := l.prog) (w := w) (base := base) G F_law_columns q_law_take
  have q_law_columns : CalD l.prog w K mg base 4 "_law_columns" 2 [] D_law_columns := ⟨⟨_, _, _, [], [], o_law_columns, PySem.W.mg_of X G0 a_law_columns, k_law_columns, b_law_columns, .nil, fun _ _ => .nil⟩⟩
  have o_law_drawn := ok_law_drawn (P := l.prog) (w := w) (base := base) G F_law_drawn q_law_pick q_law_take q_law_letters q_law_columns
  have q_law_drawn : CalD l.prog w K mg base 5 "_law_drawn" 3 [] D_law_drawn := ⟨⟨_, _, _, [], [], o_law_drawn, PySem.W.mg_of X G0 a_law_drawn, k_law_drawn, b_law_drawn, .nil, fun _ _ => .nil⟩⟩
  have e2 := l_law
  exact ok_law G F_law o_law_begun (PySem.W.mg_of X G0 a_law_begun) k_law_begun b_law_begun q_m_Table_broken q_law_is_within q_m_Scheme_closure q_law_letters q_law_pick q_law_sets q_m_Scheme_with_more q_q_Scheme_eq q_m_Table_groups q_law_common q_k_Table_init_2 q_law_rows q_k_Scheme_init_2 q_m_Scheme_closed_sets q_law_drawn
end KL

end sec_Asm
section sec_EV
set_option maxRecDepth 100000
set_option maxHeartbeats 5000000
/-! EV: running denotations by plain rules. -/
namespace FD
open PySem L2
local instance tl0 : Tabl := ⟨[]⟩
def R {α : Type} (f : M α) (ρ : Env) (w : W) (Q : α → Env → W → Prop) : Prop := ∃ a ρ' w', f ρ w = some (a, ρ', w') ∧ Q a ρ' w'
section
variable {α β : Type} {f : M α} {ρ : Env} {w : W} {d d1 d2 : D} {i : Nat} {r r1 r2 : RV}
theorem R.mono {Q Q' : α → Env → W → Prop} (h : R f ρ w Q) (k : ∀ a ρ' w', Q a ρ' w' → Q' a ρ' w') : R f ρ w Q' := let ⟨a, ρ', w', e, q⟩ := h; ⟨a, ρ', w', e, k _ _ _ q⟩
theorem R_some {a : α} {ρ' : Env} {w' : W} {Q : α → Env → W → Prop} (h : f ρ w = some (a, ρ', w')) : R f ρ w Q ↔ Q a ρ' w' :=
  ⟨fun ⟨_, _, _, e, q⟩ => by rw [h] at e; cases e; exact q, fun q => ⟨_, _, _, h, q⟩⟩
@[simp] theorem R_pure {a : α} {Q : α → Env → W → Prop} : R (pureM a) ρ w Q ↔ Q a ρ w := R_some rfl
@[simp] theorem R_bind {k : α → M β} {Q : β → Env → W → Prop} : R (bindM f k) ρ w Q ↔ R f ρ w fun a ρ' w' => R (k a) ρ' w' Q := by
  constructor
  · rintro ⟨b, ρ', w', e, q⟩
    obtain ⟨a, ρ1, w1, e1, e2⟩ := bindM_some e
    exact ⟨a, ρ1, w1, e1, b, ρ', w', e2, q⟩
  · rintro ⟨a, ρ1, w1, e1, b, ρ', w', e2, q⟩
    refine ⟨b, ρ', w', ?_, q⟩
    unfold bindM
    rw [e1]
    exact e2
@[simp] theorem R_if {b : Prop} [Decidable b] {f g : M α} {Q : α → Env → W → Prop} : R (if b then f else g) ρ w Q ↔ if b then R f ρ w Q else R g ρ w Q := by
  split <;> exact Iff.rfl
theorem R_var {Q : RV → Env → W → Prop} (h : ρ[i]? = some (some (.val d))) : R (varM i) ρ w Q ↔ Q (.sh d) ρ w := R_some (by unfold varM; rw [h])
theorem R_own {Q : RV → Env → W → Prop} (h : ρ[i]? = some (some (.own d))) : R (varM i) ρ w Q ↔ Q (.ow i) ρ w := R_some (by unfold varM; rw [h])
@[simp] theorem R_lift2 {g : D → D → Option RV} {Q : RV → Env → W → Prop} : R (lift2 g (.sh d1) (.sh d2)) ρ w Q ↔ ∃ r, g d1 d2 = some r ∧ Q r ρ w := by
  constructor
  · rintro ⟨a, ρ', w', e, q⟩
    obtain ⟨a1, a2, r, p1, p2, eg, ez⟩ := lift2_some e
    cases p1
    cases p2
    cases ez
    exact ⟨_, eg, q⟩
  · rintro ⟨r, eg, q⟩
    exact ⟨r, ρ, w, by simp [lift2, peek, eg], q⟩
theorem R_lift2' {g : D → D → Option RV} {Q : RV → Env → W → Prop} (p1 : peek ρ r1 = some d1) (p2 : peek ρ r2 = some d2) : R (lift2 g r1 r2) ρ w Q ↔ ∃ r, g d1 d2 = some r ∧ Q r ρ w := by
  constructor
  · rintro ⟨a, ρ', w', e, q⟩
    obtain ⟨a1, a2, r, q1, q2, eg, ez⟩ := lift2_some e
    rw [p1] at q1
    rw [p2] at q2
    cases q1
    cases q2
    cases ez
    exact ⟨_, eg, q⟩
  · rintro ⟨r, eg, q⟩
    exact ⟨r, ρ, w, by simp [lift2, p1, p2, eg], q⟩
theorem R_lift1' {g : D → Option RV} {Q : RV → Env → W → Prop} (p1 : peek ρ r1 = some d1) : R (lift1 g r1) ρ w Q ↔ ∃ r, g d1 = some r ∧ Q r ρ w := by
  constructor
  · rintro ⟨a, ρ', w', e, q⟩
    obtain ⟨a1, r, q1, eg, ez⟩ := lift1_some e
    rw [p1] at q1
    cases q1
    cases ez
    exact ⟨_, eg, q⟩
  · rintro ⟨r, eg, q⟩
    exact ⟨r, ρ, w, by simp [lift1, p1, eg], q⟩
@[simp] theorem R_lift1 {g : D → Option RV} {Q : RV → Env → W → Prop} : R (lift1 g (.sh d1)) ρ w Q ↔ ∃ r, g d1 = some r ∧ Q r ρ w := R_lift1' rfl
theorem R_liftN {g : List D → Option RV} {rs : List RV} {ds : List D} {Q : RV → Env → W → Prop} (p1 : peeks ρ rs = some ds) : R (liftN g rs) ρ w Q ↔ ∃ r, g ds = some r ∧ Q r ρ w := by
  constructor
  · rintro ⟨a, ρ', w', e, q⟩
    obtain ⟨a1, r, q1, eg, ez⟩ := liftN_some e
    rw [p1] at q1
    cases q1
    cases ez
    exact ⟨_, eg, q⟩
  · rintro ⟨r, eg, q⟩
    exact ⟨r, ρ, w, by simp [liftN, p1, eg], q⟩
@[simp] theorem R_bool {f : M RV} {Q : Bool → Env → W → Prop} : R (boolM f) ρ w Q ↔ R f ρ w fun r ρ' w' => ∃ b, r = .sh (.bl b) ∧ Q b ρ' w' := by
  unfold boolM
  rw [R_bind]
  constructor
  · rintro ⟨r, ρ1, w1, e1, b, ρ', w', e2, q⟩
    obtain ⟨b', er, ez⟩ := boolM_some e2
    obtain ⟨z1, z2, z3⟩ := ez
    exact ⟨r, ρ1, w1, e1, _, er, q⟩
  · rintro ⟨r, ρ1, w1, e1, b, rfl, q⟩
    exact ⟨_, ρ1, w1, e1, b, ρ1, w1, rfl, q⟩
@[simp] theorem R_escsh {Q : D → Env → W → Prop} : R (escR (.sh d)) ρ w Q ↔ Q d ρ w := R_some rfl
@[simp] theorem R_escfr {Q : D → Env → W → Prop} : R (escR (.fr d)) ρ w Q ↔ Q d ρ w := R_some rfl
@[simp] theorem R_escn {Q : List D → Env → W → Prop} : R (escAll []) ρ w Q ↔ Q [] ρ w := R_some rfl
@[simp] theorem R_escc {rs : List RV} {Q : List D → Env → W → Prop} : R (escAll (r :: rs)) ρ w Q ↔ R (escR r) ρ w fun d ρ' w' => R (escAll rs) ρ' w' fun ds ρ2 w2 => Q (d :: ds) ρ2 w2 := by
  show R (bindM (escR r) fun d => bindM (escAll rs) fun ds => pureM (d :: ds)) ρ w Q ↔ _
  simp
@[simp] theorem R_setM {s : Slot} {Q : Unit → Env → W → Prop} : R (setM i s) ρ w Q ↔ Q () (ρ.set i (some s)) w := R_some rfl
@[simp] theorem R_asgfr {Q : Unit → Env → W → Prop} : R (asgM i (.fr d)) ρ w Q ↔ Q () (ρ.set i (some (.own d))) w := R_some rfl
@[simp] theorem R_asgsh {Q : Unit → Env → W → Prop} : R (asgM i (.sh d)) ρ w Q ↔ Q () (ρ.set i (some (.val d))) w := R_some rfl
@[simp] theorem R_drI {g : W → Int} {fo : M RV} {Q : RV → Env → W → Prop} : R (drI g fo) ρ w Q ↔ R fo ρ w fun r ρ' w' => r = .sh .draw ∧ Q (.sh (.int (g w'))) ρ' w' := by
  unfold drI
  rw [R_bind]
  constructor
  · rintro ⟨r, ρ1, w1, e1, b, ρ', w', e2, q⟩
    split at e2
    · cases e2
      exact ⟨_, ρ1, w1, e1, rfl, q⟩
    · cases e2
  · rintro ⟨r, ρ1, w1, e1, rfl, q⟩
    exact ⟨_, ρ1, w1, e1, _, ρ1, w1, rfl, q⟩
def Ran {β : Type} (o : Option (β × W)) (Q : β → W → Prop) : Prop := ∃ r w', o = some (r, w') ∧ Q r w'
@[simp] theorem Ran_some {β : Type} {a : β} {Q : β → W → Prop} : Ran (some (a, w)) Q ↔ Q a w := ⟨fun ⟨_, _, e, q⟩ => by cases e; exact q, fun q => ⟨_, _, rfl, q⟩⟩
theorem Ran.mono {β : Type} {o : Option (β × W)} {Q Q' : β → W → Prop} (h : Ran o Q) (k : ∀ a w', Q a w' → Q' a w') : Ran o Q' := let ⟨a, w', e, q⟩ := h; ⟨a, w', e, k _ _ q⟩
@[simp] theorem R_runD {den : List D → W → Option (RV × W)} {ds : List D} {Q : RV → Env → W → Prop} : R (runD den ds) ρ w Q ↔ Ran (den ds w) fun r w' => Q r ρ w' := by
  constructor
  · rintro ⟨a, ρ', w', e, q⟩
    obtain ⟨r, w2, e2, ez⟩ := runD_some e
    cases ez
    exact ⟨_, _, e2, q⟩
  · rintro ⟨r, w', e, q⟩
    exact ⟨r, ρ, w', by simp [runD, e], q⟩
/-- a def's denotation -/
theorem D_run {n : Nat} {body : M Fl} {ds : List D} {Q : RV → W → Prop} (h : R body (startE n ds) w fun fl ρ' w' => ∃ r', (match fl with | .ret r => outR ρ' r = some r' | .nx => r' = .sh .non | _ => False) ∧ Q r' w') : Ran (denB n body ds w) Q := by
  obtain ⟨fl, ρ', w', e, r', hr, q⟩ := h
  refine ⟨r', w', ?_, q⟩
  unfold denB
  rw [e]
  cases fl with
  | ret r =>
    have hr : outR ρ' r = some r' := hr
    simp [endB, hr]
  | nx =>
    have hr : r' = .sh .non := hr
    rw [hr]
    rfl
  | bk => exact hr.elim
  | ct => exact hr.elim
@[simp] theorem R_seq {f g : M Fl} {Q : Fl → Env → W → Prop} : R (seqM f g) ρ w Q ↔ R f ρ w fun fl ρ' w' => match fl with
    | .nx => R g ρ' w' Q
    | fl => Q fl ρ' w' := by
  unfold seqM
  rw [R_bind]
  constructor
  · intro h
    refine h.mono fun fl ρ' w' q => ?_
    cases fl with
    | nx => exact q
    | ret r => exact R_pure.mp q
    | bk => exact R_pure.mp q
    | ct => exact R_pure.mp q
  · intro h
    refine h.mono fun fl ρ' w' q => ?_
    cases fl with
    | nx => exact q
    | ret r => exact R_pure.mpr q
    | bk => exact R_pure.mpr q
    | ct => exact R_pure.mpr q
theorem eqD_int (a b : Int) : eqD (.int a) (.int b) = some (.sh (.bl (a == b))) := by
  simp [eqD, cmpD, toPy, SeqAt.shaped, PyData.canLay0, PyData.depth, PyData.eqv]
theorem neD_int (a b : Int) : neD (.int a) (.int b) = some (.sh (.bl (!(a == b)))) := by
  simp [neD, cmpD, toPy, SeqAt.shaped, PyData.canLay0, PyData.depth, PyData.eqv]
@[simp] theorem R_drT {g : W → Bool} {fo : M RV} {Q : Bool → Env → W → Prop} : R (drT g fo) ρ w Q ↔ R fo ρ w fun r ρ' w' => r = .sh .draw ∧ Q (g w') ρ' w' := by
  unfold drT
  rw [R_bind]
  constructor
  · rintro ⟨r, ρ1, w1, e1, b, ρ', w', e2, q⟩
    split at e2
    · cases e2
      exact ⟨_, ρ1, w1, e1, rfl, q⟩
    · cases e2
  · rintro ⟨r, ρ1, w1, e1, rfl, q⟩
    exact ⟨_, ρ1, w1, e1, _, ρ1, w1, rfl, q⟩
@[simp] theorem R_drSet {g : W → Int → W} {fv fo : M RV} {Q : Fl → Env → W → Prop} : R (drSet g fv fo) ρ w Q ↔ R fv ρ w fun r1 ρ1 w1 => R fo ρ1 w1 fun r ρ' w' => ∃ i, r1 = .sh (.int i) ∧ r = .sh .draw ∧ Q .nx ρ' (g w' i) := by
  unfold drSet
  rw [R_bind]
  constructor
  · rintro ⟨r1, ρ1, w1, e1, q⟩
    rw [R_bind] at q
    obtain ⟨r, ρ2, w2, e2, b, ρ', w', e3, q⟩ := q
    refine ⟨r1, ρ1, w1, e1, r, ρ2, w2, e2, ?_⟩
    split at e3
    · cases e3
      exact ⟨_, rfl, rfl, q⟩
    · cases e3
  · rintro ⟨r1, ρ1, w1, e1, r, ρ2, w2, e2, i, rfl, rfl, q⟩
    refine ⟨_, ρ1, w1, e1, ?_⟩
    exact R_bind.mpr ⟨_, ρ2, w2, e2, _, _, _, rfl, q⟩
theorem R_drPop {fo : M RV} {Q : RV → Env → W → Prop} (h : R fo ρ w fun r ρ' w' => r = .sh .draw ∧ ∃ x xs, w'.wide = x :: xs ∧ xs.length < 1000000 ∧ Q (.sh (.int x)) ρ' { w' with wide := xs }) : R (drPop fo) ρ w Q := by
  obtain ⟨r, ρ', w', e, rfl, x, xs, e1, e2, q⟩ := h
  refine ⟨_, ρ', _, ?_, q⟩
  unfold drPop bindM
  rw [e]
  simp [e1, e2]
theorem R_forL {g : D → M Unit} {body : M Fl} {Q : Fl → Env → W → Prop} (Inv : List D → Env → W → Prop) (step : ∀ d ds ρ w, Inv (d :: ds) ρ w → R (g d) ρ w fun _ ρ1 w1 => R body ρ1 w1 fun fl ρ2 w2 => match fl with
    | .nx => Inv ds ρ2 w2
    | .ct => Inv ds ρ2 w2
    | .bk => Q .nx ρ2 w2
    | .ret r => Q (.ret r) ρ2 w2) (fin : ∀ ρ w, Inv [] ρ w → Q .nx ρ w) : ∀ (ds : List D) (ρ : Env) (w : W), Inv ds ρ w → R (forL g body ds) ρ w Q
  | [], ρ, w, h => R_pure.mpr (fin ρ w h)
  | d :: ds, ρ, w, h => by
    show R (bindM (g d) fun _ => bindM body fun fl => match fl with
      | .nx => forL g body ds
      | .ct => forL g body ds
      | .bk => pureM .nx
      | .ret r => pureM (.ret r)) ρ w Q
    rw [R_bind]
    refine (step d ds ρ w h).mono fun _ ρ1 w1 q => ?_
    rw [R_bind]
    refine q.mono fun fl ρ2 w2 q => ?_
    cases fl with
    | nx => exact R_forL Inv step fin ds ρ2 w2 q
    | ct => exact R_forL Inv step fin ds ρ2 w2 q
    | bk => exact R_pure.mpr q
    | ret r => exact R_pure.mpr q
@[simp] theorem R_for {fi : M (List D)} {g : D → M Unit} {body : M Fl} {Q : Fl → Env → W → Prop} : R (forM fi g body) ρ w Q ↔ R fi ρ w fun ds ρ' w' => R (forL g body ds) ρ' w' Q := by
  unfold forM
  exact R_bind
@[simp] theorem R_gName {Q : Unit → Env → W → Prop} : R (gNameM i d) ρ w Q ↔ Q () (ρ.set i (some (.val d))) w := R_some rfl
@[simp] theorem R_drC {fo : M RV} {Q : List D → Env → W → Prop} : R (drC fo) ρ w Q ↔ R fo ρ w fun r ρ' w' => r = .sh .draw ∧ Q (w'.cells.map D.int) ρ' w' := by
  unfold drC
  rw [R_bind]
  constructor
  · rintro ⟨r, ρ1, w1, e1, b, ρ', w', e2, q⟩
    split at e2
    · cases e2
      exact ⟨_, ρ1, w1, e1, rfl, q⟩
    · cases e2
  · rintro ⟨r, ρ1, w1, e1, rfl, q⟩
    exact ⟨_, ρ1, w1, e1, _, ρ1, w1, rfl, q⟩
theorem R_iter {ds : List D} {Q : List D → Env → W → Prop} (h : iterD d = some ds) : R (iterM (.sh d)) ρ w Q ↔ Q ds ρ w := R_some (by unfold iterM bindM; simp [escR, pureM, h])
theorem R_iterF {ds : List D} {Q : List D → Env → W → Prop} (h : iterD d = some ds) : R (iterM (.fr d)) ρ w Q ↔ Q ds ρ w := R_some (by unfold iterM bindM; simp [escR, pureM, h])
theorem lg {i : Int} {n : Nat} (h0 : 0 ≤ i) (h : i < 2 ^ n) (hn : 0 < n) : i.natAbs.log2 < n := by
  rcases Nat.eq_zero_or_pos i.natAbs with z | z
  · rw [z]
    simpa using hn
  · refine (Nat.log2_lt (by omega)).mpr ?_
    have : (i.natAbs : Int) < 2 ^ n := by rw [Int.natAbs_of_nonneg h0]; exact h
    exact_mod_cast this
@[simp] theorem R_offsh {Q : RV → Env → W → Prop} : R (offR (.sh d)) ρ w Q ↔ Q (.sh d) ρ w := R_some rfl
@[simp] theorem R_offfr {Q : RV → Env → W → Prop} : R (offR (.fr d)) ρ w Q ↔ Q (.fr d) ρ w := R_some rfl
variable {fa fb : M RV} {ta tb : M Bool}
@[simp] theorem R_op2 {g : D → D → Option RV} {Q : RV → Env → W → Prop} : R (op2M g fa fb) ρ w Q ↔ R fa ρ w fun r1 ρ1 w1 => R fb ρ1 w1 fun r2 ρ2 w2 => R (lift2 g r1 r2) ρ2 w2 Q := by
  unfold op2M
  simp
@[simp] theorem R_op1 {g : D → Option RV} {Q : RV → Env → W → Prop} : R (op1M g fa) ρ w Q ↔ R fa ρ w fun r1 ρ1 w1 => R (lift1 g r1) ρ1 w1 Q := by
  unfold op1M
  simp
@[simp] theorem R_bM {g : List D → Option RV} {fs : M (List RV)} {Q : RV → Env → W → Prop} : R (bM g fs) ρ w Q ↔ R fs ρ w fun rs ρ1 w1 => R (liftN g rs) ρ1 w1 Q := by
  unfold bM
  simp
@[simp] theorem R_consA {fs : M (List RV)} {Q : List RV → Env → W → Prop} : R (consA fa fs) ρ w Q ↔ R fa ρ w fun r ρ1 w1 => R fs ρ1 w1 fun rs ρ2 w2 => Q (r :: rs) ρ2 w2 := by
  unfold consA
  simp
@[simp] theorem R_ifM {f g : M α} {Q : α → Env → W → Prop} : R (ifM ta f g) ρ w Q ↔ R ta ρ w fun b ρ1 w1 => if b = true then R f ρ1 w1 Q else R g ρ1 w1 Q := by
  unfold ifM
  simp
@[simp] theorem R_nxM {m : M Unit} {Q : Fl → Env → W → Prop} : R (nxM m) ρ w Q ↔ R m ρ w fun _ ρ1 w1 => Q .nx ρ1 w1 := by
  unfold nxM
  simp
@[simp] theorem R_tupM {fs : M (List RV)} {Q : RV → Env → W → Prop} : R (tupM fs) ρ w Q ↔ R fs ρ w fun rs ρ1 w1 => R (escAll rs) ρ1 w1 fun ds ρ2 w2 => Q (.sh (.tup ds)) ρ2 w2 := by
  unfold tupM
  simp
@[simp] theorem R_lstM {fs : M (List RV)} {Q : RV → Env → W → Prop} : R (lstM fs) ρ w Q ↔ R fs ρ w fun rs ρ1 w1 => R (escAll rs) ρ1 w1 fun ds ρ2 w2 => Q (.fr (.lst ds)) ρ2 w2 := by
  unfold lstM
  simp
@[simp] theorem R_callM {den : List D → W → Option (RV × W)} {dd : List D} {fs : M (List RV)} {Q : RV → Env → W → Prop} : R (callM den dd fs) ρ w Q ↔ R fs ρ w fun rs ρ1 w1 => R (escAll rs) ρ1 w1 fun ds ρ2 w2 => Ran (den (ds ++ dd) w2) fun r w' => Q r ρ2 w' := by
  unfold callM
  simp
@[simp] theorem R_andT {Q : Bool → Env → W → Prop} : R (andT ta tb) ρ w Q ↔ R ta ρ w fun b ρ1 w1 => if b = true then R tb ρ1 w1 Q else Q false ρ1 w1 := by
  unfold andT
  simp
@[simp] theorem R_orT {Q : Bool → Env → W → Prop} : R (orT ta tb) ρ w Q ↔ R ta ρ w fun b ρ1 w1 => if b = true then Q true ρ1 w1 else R tb ρ1 w1 Q := by
  unfold orT
  simp
@[simp] theorem R_notT {Q : Bool → Env → W → Prop} : R (notT ta) ρ w Q ↔ R ta ρ w fun b ρ1 w1 => Q (!b) ρ1 w1 := by
  unfold notT
  simp
@[simp] theorem R_pend {fs : M (List RV)} {Q : List RV → Env → W → Prop} : R (pend1 fa fs) ρ w Q ↔ R fa ρ w fun r ρ1 w1 => R (offR r) ρ1 w1 fun r' ρ2 w2 => R fs ρ2 w2 fun rs ρ3 w3 => Q (r' :: rs) ρ3 w3 := by
  unfold pend1
  simp
@[simp] theorem R_parn {Q : Unit → Env → W → Prop} : R (parM [] []) ρ w Q ↔ Q () ρ w := R_pure
@[simp] theorem R_parsh {is : List Nat} {rs : List RV} {Q : Unit → Env → W → Prop} : R (parM (i :: is) (.sh d :: rs)) ρ w Q ↔ R (parM is rs) (ρ.set i (some (.val d))) w Q := by
  show R (bindM (setM i (.val d)) fun _ => parM is rs) ρ w Q ↔ _
  simp
@[simp] theorem R_parfr {is : List Nat} {rs : List RV} {Q : Unit → Env → W → Prop} : R (parM (i :: is) (.fr d :: rs)) ρ w Q ↔ R (parM is rs) (ρ.set i (some (.own d))) w Q := by
  show R (bindM (setM i (.own d)) fun _ => parM is rs) ρ w Q ↔ _
  simp
end
end FD

end sec_EV
section sec_EV2
set_option maxRecDepth 100000
set_option maxHeartbeats 5000000
/-! EV2: more rules for running denotations; texts as lists of code points. -/
namespace FD
open PySem L2
local instance tl1 : Tabl := ⟨[]⟩
section
variable {α β : Type} {f : M α} {ρ : Env} {w : W} {d d1 d2 : D} {i : Nat} {r r1 r2 : RV} {fa fb fo fe : M RV} {ta tb : M Bool}
theorem R_escow {Q : D → Env → W → Prop} (h : ρ[i]? = some (some (.own d))) : R (escR (.ow i)) ρ w Q ↔ Q d (ρ.set i (some (.val d))) w := R_some (by unfold escR; simp [h])
@[simp] theorem R_strM {g : Str → D → Option RV} {Q : RV → Env → W → Prop} : R (strM g fo fe) ρ w Q ↔ R fo ρ w fun r ρ1 w1 => ∃ s, r = .sh (.str s) ∧ R fe ρ1 w1 fun r2 ρ2 w2 => R (lift1 (g s) r2) ρ2 w2 Q := by
  unfold strM
  rw [R_bind]
  constructor
  · rintro ⟨r, ρ1, w1, e1, q⟩
    refine ⟨r, ρ1, w1, e1, ?_⟩
    split at q
    · exact ⟨_, rfl, R_bind.mp q⟩
    · obtain ⟨_, _, _, e, _⟩ := q
      cases e
  · rintro ⟨r, ρ1, w1, e1, s, rfl, q⟩
    exact ⟨_, ρ1, w1, e1, R_bind.mpr q⟩
@[simp] theorem R_ssetM {Q : RV → Env → W → Prop} : R (ssetM fa) ρ w Q ↔ R fa ρ w fun r ρ1 w1 => ∃ x : Str, r = .sh (.str x) ∧ x.cps.size < 4000 ∧ Q (.fr (.lst ((ST.sset x).map D.str))) ρ1 w1 := by
  unfold ssetM
  rw [R_bind]
  constructor
  · rintro ⟨r, ρ1, w1, e1, q⟩
    refine ⟨r, ρ1, w1, e1, ?_⟩
    split at q
    · split at q
      · exact ⟨_, rfl, by assumption, R_pure.mp q⟩
      · obtain ⟨_, _, _, e, _⟩ := q
        cases e
    · obtain ⟨_, _, _, e, _⟩ := q
      cases e
  · rintro ⟨r, ρ1, w1, e1, x, rfl, h, q⟩
    refine ⟨_, ρ1, w1, e1, ?_⟩
    simp only [h, if_true]
    exact R_pure.mpr q
@[simp] theorem R_andM {Q : RV → Env → W → Prop} : R (andM fa fb) ρ w Q ↔ R (boolM fa) ρ w fun b ρ1 w1 => if b = true then R fb ρ1 w1 Q else Q (.sh (.bl false)) ρ1 w1 := by
  unfold andM
  simp
@[simp] theorem R_orM {Q : RV → Env → W → Prop} : R (orM fa fb) ρ w Q ↔ R (boolM fa) ρ w fun b ρ1 w1 => if b = true then Q (.sh (.bl true)) ρ1 w1 else R fb ρ1 w1 Q := by
  unfold orM
  simp
@[simp] theorem R_notM {Q : RV → Env → W → Prop} : R (notM fa) ρ w Q ↔ R (boolM fa) ρ w fun b ρ1 w1 => Q (.sh (.bl (!b))) ρ1 w1 := by
  unfold notM
  simp
@[simp] theorem R_isiM {bt : String → Bool} {ic : List (Str × Bool)} {Q : RV → Env → W → Prop} : R (isiM bt ic fa) ρ w Q ↔ R fa ρ w fun r ρ1 w1 => R (lift1 (fun d => (isiD bt ic d).map fun b => .sh (.bl b)) r) ρ1 w1 Q := by
  unfold isiM
  exact R_op1
@[simp] theorem R_sortM {srt : List Str → List Str} {Q : RV → Env → W → Prop} : R (sortM srt fa) ρ w Q ↔ R fa ρ w fun r ρ1 w1 => R (lift1 (fun d => match textsD d with
  | some xs => if xs.all (fun x => decide (x.length ≤ 1000000)) = true then some (.fr (.lst ((srt xs).map D.str))) else none
  | none => none) r) ρ1 w1 Q := by
  unfold sortM
  exact R_bind
theorem R_lcM {fi : M (List D)} {vs : List Nat} {asg : D → M Unit} {test : M Bool} {elt : M RV} {Q : RV → Env → W → Prop} : R (lcM fi vs asg test elt) ρ w Q ↔ R fi ρ w fun ds ρ1 w1 => (noOwn ρ1 vs = true ∧ ds.length ≤ 1000000) ∧ R (lcL vs asg test elt ds) (wipeE ρ1 vs) w1 fun ys ρ2 w2 => Q (.fr (.lst ys)) (restE ρ1 ρ2 vs) w2 := by
  unfold lcM
  rw [R_bind]
  constructor
  · rintro ⟨ds, ρ1, w1, e1, r, ρ2, w2, e2, q⟩
    refine ⟨ds, ρ1, w1, e1, ?_⟩
    dsimp only at e2
    split at e2
    · rename_i hc
      refine ⟨hc, ?_⟩
      split at e2
      · rename_i e3
        cases e2
        exact ⟨_, _, _, e3, q⟩
      · cases e2
    · cases e2
  · rintro ⟨ds, ρ1, w1, e1, hc, ys, ρ2, w2, e2, q⟩
    refine ⟨ds, ρ1, w1, e1, ⟨_, _, _, ?_, q⟩⟩
    simp [hc, e2]
/-- a comprehension whose turns leave the draws alone -/
theorem R_lcL {vs : List Nat} {asg : D → M Unit} {test : M Bool} {elt : M RV} {Q : List D → Env → W → Prop} (g : D → Option D) : ∀ (ds : List D), (∀ d ∈ ds, R (lcTurn asg test elt d) ρ w fun y ρ' w' => y = g d ∧ wipeE ρ' vs = ρ ∧ w' = w) → Q (ds.filterMap g) ρ w → R (lcL vs asg test elt ds) ρ w Q := by
  have key : ∀ (ds : List D), (∀ d ∈ ds, R (lcTurn asg test elt d) ρ w fun y ρ' w' => y = g d ∧ wipeE ρ' vs = ρ ∧ w' = w) → lcL vs asg test elt ds ρ w = some (ds.filterMap g, ρ, w) := by
    intro ds
    induction ds with
    | nil => intro _; rfl
    | cons d ds ih =>
      intro h
      obtain ⟨y, ρ1, w1, e1, rfl, e2, rfl⟩ := h d List.mem_cons_self
      have e3 := ih fun d' h' => h d' (List.mem_cons_of_mem _ h')
      unfold lcL bindM
      rw [e1]
      simp only [wipeM, e2, e3, pureM]
      cases e : g d <;> simp [List.filterMap_cons, e]
  intro ds h q
  exact ⟨_, _, _, key ds h, q⟩
@[simp] theorem R_lcTurn {asg : D → M Unit} {test : M Bool} {elt : M RV} {Q : Option D → Env → W → Prop} : R (lcTurn asg test elt d) ρ w Q ↔ R (asg d) ρ w fun _ ρ1 w1 => R test ρ1 w1 fun b ρ2 w2 => if b = true then R elt ρ2 w2 fun r ρ3 w3 => R (escR r) ρ3 w3 fun y ρ4 w4 => Q (some y) ρ4 w4 else Q none ρ2 w2 := by
  unfold lcTurn
  simp
theorem R_range {n : Int} {Q : List D → Env → W → Prop} {rs : List RV} (h : peeks ρ rs = some [.int n]) (h1 : -1000000 ≤ n ∧ n ≤ 1000000) : R (rangeM rs) ρ w Q ↔ Q ((List.range n.toNat).map fun (i : Nat) => D.int (i : Int)) ρ w := R_some (by unfold rangeM; simp [h, h1])
@[simp] theorem R_enumM {Q : List D → Env → W → Prop} : R (enumM fe) ρ w Q ↔ R fe ρ w fun r ρ1 w1 => R (escR r) ρ1 w1 fun d ρ2 w2 => ∃ ds, seqD d = some ds ∧ Q (numD 0 ds) ρ2 w2 := by
  unfold enumM
  simp only [R_bind]
  constructor
  · intro h
    refine h.mono fun r ρ1 w1 h => h.mono fun d ρ2 w2 h => ?_
    obtain ⟨a, ρ3, w3, e, q⟩ := h
    split at e
    · rename_i e'
      cases e
      exact ⟨_, e', q⟩
    · cases e
  · intro h
    refine h.mono fun r ρ1 w1 h => h.mono fun d ρ2 w2 h => ?_
    obtain ⟨ds, e, q⟩ := h
    exact ⟨_, _, _, by simp [e], q⟩
theorem R_app {Q : RV → Env → W → Prop} {i : Nat} {ds0 : List D} (h0 : ownL ρ i = some ds0) (h : R fe ρ w fun r ρ1 w1 => R (escR r) ρ1 w1 fun d ρ2 w2 => ∃ ds, ownL ρ2 i = some ds ∧ ds.length < 1000000 ∧ Q (.sh .non) (ρ2.set i (some (.own (.lst (ds ++ [d]))))) w2) : R (appM i fe) ρ w Q := by
  obtain ⟨r, ρ1, w1, e1, d, ρ2, w2, e2, ds, e3, hl, q⟩ := h
  refine ⟨_, _, _, ?_, q⟩
  unfold appM
  simp [h0, bindM, e1, e2, e3, hl]
theorem R_pop {Q : RV → Env → W → Prop} {i : Nat} {ds0 : List D} (h0 : ownL ρ i = some ds0) (h : R fe ρ w fun r ρ1 w1 => ∃ k ds d, r = .sh (.int k) ∧ ownL ρ1 i = some ds ∧ (0 ≤ k ∧ k < ds.length ∧ ds.length < 1000000) ∧ ds[k.toNat]? = some d ∧ Q (.sh d) (ρ1.set i (some (.own (.lst (ds.eraseIdx k.toNat))))) w1) : R (popM i fe) ρ w Q := by
  obtain ⟨r, ρ1, w1, e1, k, ds, d, rfl, e3, hl, e4, q⟩ := h
  refine ⟨_, _, _, ?_, q⟩
  unfold popM
  have e5 := (List.getElem?_eq_some_iff.mp e4).2
  simp [h0, bindM, e1, e3, hl, e5]
@[simp] theorem R_partM {Q : Option Int → Env → W → Prop} : R (partM fa) ρ w Q ↔ R fa ρ w fun r ρ1 w1 => ∃ i, r = .sh (.int i) ∧ Q (some i) ρ1 w1 := by
  unfold partM
  rw [R_bind]
  constructor
  · intro h
    refine h.mono fun r ρ1 w1 h => ?_
    obtain ⟨a, ρ3, w3, e, q⟩ := h
    split at e
    · rename_i e'
      cases e
      unfold asI at e'
      split at e'
      · cases e'
        exact ⟨_, rfl, q⟩
      · cases e'
    · cases e
  · intro h
    refine h.mono fun r ρ1 w1 h => ?_
    obtain ⟨i, rfl, q⟩ := h
    exact ⟨_, _, _, rfl, q⟩
@[simp] theorem R_slM {fl fh : M (Option Int)} {Q : RV → Env → W → Prop} : R (slM fa fl fh) ρ w Q ↔ R fa ρ w fun r1 ρ1 w1 => R fl ρ1 w1 fun lo ρ2 w2 => R fh ρ2 w2 fun hi ρ3 w3 => R (lift1 (fun d => slD d lo hi) r1) ρ3 w3 Q := by
  unfold slM
  simp
theorem R_while {t : M Bool} {body : M Fl} {Q : Fl → Env → W → Prop} (Inv : Nat → Env → W → Prop) (step : ∀ k ρ w, Inv k ρ w → R t ρ w fun b ρ1 w1 => if b = true then R body ρ1 w1 fun fl ρ2 w2 => match fl with
    | .nx => ∃ k', k' < k ∧ Inv k' ρ2 w2
    | .ct => ∃ k', k' < k ∧ Inv k' ρ2 w2
    | .bk => Q .nx ρ2 w2
    | .ret r => Q (.ret r) ρ2 w2 else Q .nx ρ1 w1) : ∀ (n k : Nat) (ρ : Env) (w : W), k < n → Inv k ρ w → R (whileM t body n) ρ w Q
  | 0, k, ρ, w, hk, h => absurd hk (by omega)
  | n + 1, k, ρ, w, hk, h => by
    unfold whileM
    rw [R_bind]
    refine (step k ρ w h).mono fun b ρ1 w1 q => ?_
    cases b with
    | false => exact R_pure.mpr q
    | true =>
      simp only [if_true] at q ⊢
      rw [R_bind]
      refine q.mono fun fl ρ2 w2 q => ?_
      cases fl with
      | nx =>
        obtain ⟨k', h', q⟩ := q
        exact R_while Inv step n k' ρ2 w2 (by omega) q
      | ct =>
        obtain ⟨k', h', q⟩ := q
        exact R_while Inv step n k' ρ2 w2 (by omega) q
      | bk => exact R_pure.mpr q
      | ret r => exact R_pure.mpr q
@[simp] theorem R_gTup {g : List D → M Unit} {ds : List D} {Q : Unit → Env → W → Prop} : R (gTupM g (.tup ds)) ρ w Q ↔ R (g ds) ρ w Q := Iff.rfl
@[simp] theorem R_gCons {g : D → M Unit} {h : List D → M Unit} {ds : List D} {Q : Unit → Env → W → Prop} : R (gConsM g h (d :: ds)) ρ w Q ↔ R (g d) ρ w fun _ ρ1 w1 => R (h ds) ρ1 w1 Q := R_bind
@[simp] theorem R_gNil {Q : Unit → Env → W → Prop} : R (gNilM []) ρ w Q ↔ Q () ρ w := R_pure
@[simp] theorem R_makM {cn : Str} {den : List D → W → Option (List (Str × D) × W)} {dd : List D} {fs : M (List RV)} {Q : RV → Env → W → Prop} : R (makM cn den dd fs) ρ w Q ↔ R fs ρ w fun rs ρ1 w1 => R (escAll rs) ρ1 w1 fun ds ρ2 w2 => Ran (den (ds ++ dd) w2) fun gs w' => Q (.sh (.ins cn gs)) ρ2 w' := by
  unfold makM
  simp only [R_bind]
  constructor
  · intro h
    refine h.mono fun r ρ1 w1 h => h.mono fun d ρ2 w2 h => ?_
    obtain ⟨a, ρ3, w3, e, q⟩ := h
    dsimp only at e
    split at e
    · rename_i e'
      cases e
      exact ⟨_, _, e', q⟩
    · cases e
  · intro h
    refine h.mono fun r ρ1 w1 h => h.mono fun d ρ2 w2 h => ?_
    obtain ⟨gs, w', e, q⟩ := h
    exact ⟨_, _, _, by simp [e], q⟩
theorem R_self {cn m : Str} {gs : List (Str × D)} {Q : D → Env → W → Prop} (h : gs.lookup m = none) : R (selfR cn m (.sh (.ins cn gs))) ρ w Q ↔ Q (.ins cn gs) ρ w := R_some (by simp [selfR, bindM, escR, pureM, h])
@[simp] theorem R_methM {cn m : Str} {den : List D → W → Option (RV × W)} {dd : List D} {fs : M (List RV)} {Q : RV → Env → W → Prop} : R (methM cn m den dd fo fs) ρ w Q ↔ R fo ρ w fun r ρ1 w1 => R (selfR cn m r) ρ1 w1 fun d ρ2 w2 => R fs ρ2 w2 fun rs ρ3 w3 => R (escAll rs) ρ3 w3 fun ds ρ4 w4 => Ran (den (d :: (ds ++ dd)) w4) fun r w' => Q r ρ4 w' := by
  unfold methM
  simp
theorem R_eqO {cn : Str} {ic : List (Str × Bool)} {den : List D → W → Option (RV × W)} {ne : Bool} {Q : RV → Env → W → Prop} (h : R fa ρ w fun r1 ρ1 w1 => R fb ρ1 w1 fun r2 ρ2 w2 => R (escR r1) ρ2 w2 fun d1 ρ3 w3 => R (escR r2) ρ3 w3 fun d2 ρ4 w4 => ∃ gs, d1 = .ins cn gs ∧ isiD (fun _ => true) ic d2 = some true ∧ Ran (den [.ins cn gs, d2] w4) fun r w' => ∃ b, r = .sh (.bl b) ∧ Q (.sh (.bl (if ne then !b else b))) ρ4 w') : R (eqOM cn ic den ne fa fb) ρ w Q := by
  obtain ⟨r1, ρ1, w1, e1, r2, ρ2, w2, e2, d1, ρ3, w3, e3, d2, ρ4, w4, e4, gs, rfl, hi, r, w', hd, b, rfl, q⟩ := h
  refine ⟨_, _, _, ?_, q⟩
  unfold eqOM
  simp [bindM, e1, e2, e3, e4, escAll, hi, hd, runD, pureM]
end
/-! texts -/
abbrev st (l : List Nat) : Str := ⟨l.toArray⟩
abbrev S (l : List Nat) : D := .str (st l)
def CpOk (l : List Nat) : Prop := ∀ c ∈ l, c < 0x110000
theorem st_inj {l m : List Nat} : st l = st m ↔ l = m := ⟨fun h => by
  have := congrArg (fun x : Str => x.cps.toList) h
  simpa using this, fun h => h ▸ rfl⟩
theorem st_app (l m : List Nat) : st l ++ st m = st (l ++ m) := by
  show Str.append _ _ = _
  simp [Str.append]
theorem st_len (l : List Nat) : (st l).length = l.length := by simp [Str.length]
end FD

end sec_EV2
section sec_EV3
set_option maxRecDepth 100000
set_option maxHeartbeats 5000000
/-! EV3: plain operations on texts and lists of texts. -/
namespace FD
open PySem L2
local instance tl2 : Tabl := ⟨[]⟩
theorem eqv_refl_str (l m : List Nat) : PyData.eqv (.str (st l)) (.str (st m)) = decide (l = m) := by
  show (st l == st m) = decide (l = m)
  by_cases h : l = m
  · subst h
    simp
  · have : ¬ st l = st m := fun e => h (st_inj.mp e)
    simp [h, this]
theorem shaped_str {l : List Nat} (h : CpOk l) : SeqAt.shaped (.str (st l)) = true := by
  simp [SeqAt.shaped, PyData.canLay0, PyData.depth, PyData.strOk]
  exact h
theorem cmp_S {l m : List Nat} (h : CpOk l) (k : CpOk m) : cmpD (S l) (S m) = some (decide (l = m)) := by
  simp [cmpD, toPy, shaped_str h, shaped_str k, eqv_refl_str]
theorem eqD_S {l m : List Nat} (h : CpOk l) (k : CpOk m) : eqD (S l) (S m) = some (.sh (.bl (decide (l = m)))) := by
  simp [eqD, cmp_S h k]
theorem neD_S {l m : List Nat} (h : CpOk l) (k : CpOk m) : neD (S l) (S m) = some (.sh (.bl (!decide (l = m)))) := by
  simp [neD, cmp_S h k]
theorem addD_S {l m : List Nat} (h : l.length + m.length ≤ 1000000) : addD (S l) (S m) = some (.sh (S (l ++ m))) := by
  simp only [addD, st_len, h, if_true, st_app]
theorem inS_S {c : Nat} {l : List Nat} {no : Bool} : inS no (S [c]) (S l) = some (.sh (.bl (if no then !decide (c ∈ l) else decide (c ∈ l)))) := by
  simp [inS]
theorem iterD_S {l : List Nat} : iterD (S l) = some (l.map fun c => S [c]) := rfl
theorem lenD_S {l : List Nat} (h : l.length ≤ 1000000) : lenD [S l] = some (.sh (.int l.length)) := by
  simp [lenD, st_len, h]
theorem sset_S (l : List Nat) : (ST.sset (st l)).map D.str = (ST.setN l).map fun c => S [c] := by
  simp [ST.sset, ST.sg1]
theorem asStrs_S (xs : List (List Nat)) : asStrs (xs.map S) = some (xs.map st) := by
  have := asStrs_map (xs.map st)
  rw [List.map_map] at this
  exact this
theorem lens (xs : List (List Nat)) : ((xs.map st).map (·.length)).sum = xs.flatten.length := by
  rw [List.length_flatten, List.map_map]
  congr 1
theorem join_st : ∀ (xs : List (List Nat)), Txt.join (st []) (xs.map st) = st xs.flatten := by
  have key : ∀ (xs : List (List Nat)) (acc : Array Nat), (xs.map st).foldl (fun acc p => acc ++ (st []).cps ++ p.cps) acc = acc ++ xs.flatten.toArray := by
    intro xs
    induction xs with
    | nil => intro acc; simp
    | cons x xs ih =>
      intro acc
      rw [List.map_cons, List.foldl_cons, ih]
      simp
  intro xs
  cases xs with
  | nil => rfl
  | cons x xs =>
    show (⟨(xs.map st).foldl (fun acc p => acc ++ (st []).cps ++ p.cps) (st x).cps⟩ : Str) = _
    rw [key]
    simp
theorem joinD_S {xs : List (List Nat)} (h : xs.flatten.length ≤ 1000000) : joinD (st []) (.lst (xs.map S)) = some (.sh (S xs.flatten)) := by
  have e : (st []).length = 0 := rfl
  simp only [joinD, asStrs_S, lens, e, Nat.mul_zero, Nat.add_zero, h, if_true, join_st]
end FD

end sec_EV3
section sec_EV4
set_option maxRecDepth 100000
set_option maxHeartbeats 5000000
/-! EV4: rules for loops by plain lists; equations for defs. -/
namespace FD
open PySem L2
local instance tl4 : Tabl := ⟨[]⟩
section
variable {α : Type} {ρ : Env} {w : W}
/-- a def that gives one value and leaves the draws -/
theorem D_eq {n : Nat} {body : M Fl} {ds : List D} {r0 : RV} {w0 : W} (h : R body (startE n ds) w fun fl ρ' w' => w' = w0 ∧ match fl with | .ret r => outR ρ' r = some r0 | .nx => r0 = .sh .non | _ => False) : denB n body ds w = some (r0, w0) := by
  obtain ⟨r, w', e, h1, h2⟩ := D_run (Q := fun r w' => r = r0 ∧ w' = w0) (h.mono fun fl ρ' w' q => ⟨r0, by cases fl <;> exact q.2, rfl, q.1⟩)
  rw [e, h1, h2]
theorem R_lcLm {vs : List Nat} {asg : D → M Unit} {test : M Bool} {elt : M RV} {Q : List D → Env → W → Prop} (emb : α → D) (g : α → Option D) (l : List α) (h : ∀ a ∈ l, R (lcTurn asg test elt (emb a)) ρ w fun y ρ' w' => y = g a ∧ wipeE ρ' vs = ρ ∧ w' = w) (q : Q (l.filterMap g) ρ w) : R (lcL vs asg test elt (l.map emb)) ρ w Q := by
  have key : ∀ (l : List α), (∀ d ∈ l, R (lcTurn asg test elt (emb d)) ρ w fun y ρ' w' => y = g d ∧ wipeE ρ' vs = ρ ∧ w' = w) → lcL vs asg test elt (l.map emb) ρ w = some (l.filterMap g, ρ, w) := by
    intro ds
    induction ds with
    | nil => intro _; rfl
    | cons d ds ih =>
      intro h
      obtain ⟨y, ρ1, w1, e1, rfl, e2, rfl⟩ := h d List.mem_cons_self
      have e3 := ih fun d' h' => h d' (List.mem_cons_of_mem _ h')
      rw [List.map_cons]
      unfold lcL bindM
      rw [e1]
      simp only [wipeM, e2, e3, pureM]
      cases e : g d <;> simp [List.filterMap_cons, e]
  exact ⟨_, _, _, key l h, q⟩
theorem filterMap_some {β : Type} (f : α → β) (l : List α) : l.filterMap (fun a => some (f a)) = l.map f := by
  induction l with
  | nil => rfl
  | cons a l ih => simp
theorem filterMap_if {β : Type} (p : α → Bool) (f : α → β) (l : List α) : l.filterMap (fun a => if p a = true then some (f a) else none) = (l.filter p).map f := by
  induction l with
  | nil => rfl
  | cons a l ih =>
    by_cases h : p a = true
    · simp [h, ih]
    · simp [h, ih]
/-- all are taken -/
theorem R_lcMap {vs : List Nat} {asg : D → M Unit} {test : M Bool} {elt : M RV} {Q : List D → Env → W → Prop} (emb : α → D) (f : α → D) (l : List α) (h : ∀ a ∈ l, R (lcTurn asg test elt (emb a)) ρ w fun y ρ' w' => y = some (f a) ∧ wipeE ρ' vs = ρ ∧ w' = w) (q : Q (l.map f) ρ w) : R (lcL vs asg test elt (l.map emb)) ρ w Q :=
  R_lcLm emb (fun a => some (f a)) l h (by rw [filterMap_some]; exact q)
/-- some are taken -/
theorem R_lcFil {vs : List Nat} {asg : D → M Unit} {test : M Bool} {elt : M RV} {Q : List D → Env → W → Prop} (emb : α → D) (p : α → Bool) (f : α → D) (l : List α) (h : ∀ a ∈ l, R (lcTurn asg test elt (emb a)) ρ w fun y ρ' w' => y = (if p a = true then some (f a) else none) ∧ wipeE ρ' vs = ρ ∧ w' = w) (q : Q ((l.filter p).map f) ρ w) : R (lcL vs asg test elt (l.map emb)) ρ w Q :=
  R_lcLm emb (fun a => if p a = true then some (f a) else none) l h (by rw [filterMap_if]; exact q)
/-- turns that draw: Inv of what is left, of what is there, of the draws -/
theorem R_lcInv {vs : List Nat} {asg : D → M Unit} {test : M Bool} {elt : M RV} {Q : List D → Env → W → Prop} (emb : α → D) (Inv : List α → List D → W → Prop) (step : ∀ a l acc w, Inv (a :: l) acc w → R (lcTurn asg test elt (emb a)) ρ w fun y ρ' w' => wipeE ρ' vs = ρ ∧ Inv l (acc ++ y.toList) w') (fin : ∀ acc w, Inv [] acc w → Q acc ρ w) (l : List α) (h : Inv l [] w) : R (lcL vs asg test elt (l.map emb)) ρ w Q := by
  have key : ∀ (l : List α) (acc : List D) (w : W), Inv l acc w → ∃ ys w', lcL vs asg test elt (l.map emb) ρ w = some (ys, ρ, w') ∧ Inv [] (acc ++ ys) w' := by
    intro l
    induction l with
    | nil => intro acc w h; exact ⟨[], w, rfl, by simpa using h⟩
    | cons a l ih =>
      intro acc w h
      obtain ⟨y, ρ1, w1, e1, e2, h2⟩ := step a l acc w h
      obtain ⟨ys, w', e3, h3⟩ := ih _ _ h2
      refine ⟨y.toList ++ ys, w', ?_, by simpa using h3⟩
      rw [List.map_cons]
      unfold lcL bindM
      rw [e1]
      simp only [wipeM, e2, e3, pureM]
  obtain ⟨ys, w', e, h'⟩ := key l [] w h
  exact ⟨_, _, _, e, fin _ _ (by simpa using h')⟩
theorem R_forLm {g : D → M Unit} {body : M Fl} {Q : Fl → Env → W → Prop} (emb : α → D) (Inv : List α → Env → W → Prop) (step : ∀ d ds ρ w, Inv (d :: ds) ρ w → R (g (emb d)) ρ w fun _ ρ1 w1 => R body ρ1 w1 fun fl ρ2 w2 => match fl with
    | .nx => Inv ds ρ2 w2
    | .ct => Inv ds ρ2 w2
    | .bk => Q .nx ρ2 w2
    | .ret r => Q (.ret r) ρ2 w2) (fin : ∀ ρ w, Inv [] ρ w → Q .nx ρ w) (ds : List α) (ρ : Env) (w : W) (h : Inv ds ρ w) : R (forL g body (ds.map emb)) ρ w Q := by
  refine R_forL (fun l ρ w => ∃ ds, l = ds.map emb ∧ Inv ds ρ w) ?_ ?_ _ _ _ ⟨ds, rfl, h⟩
  · rintro d l ρ w ⟨ds, e, h⟩
    cases ds with
    | nil => cases e
    | cons a ds =>
      cases e
      refine (step a ds ρ w h).mono fun _ ρ1 w1 h => h.mono fun fl ρ2 w2 h => ?_
      cases fl with
      | nx => exact ⟨ds, rfl, h⟩
      | ct => exact ⟨ds, rfl, h⟩
      | bk => exact h
      | ret r => exact h
  · rintro ρ w ⟨ds, e, h⟩
    cases ds with
    | nil => exact fin ρ w h
    | cons a ds => cases e
theorem R_while2 {t : M Bool} {body : M Fl} {Q : Fl → Env → W → Prop} (Inv B : Nat → Env → W → Prop) (test : ∀ k ρ w, Inv k ρ w → R t ρ w fun b ρ1 w1 => if b = true then B k ρ1 w1 else Q .nx ρ1 w1) (step : ∀ k ρ w, B k ρ w → R body ρ w fun fl ρ2 w2 => match fl with
    | .nx => ∃ k', k' < k ∧ Inv k' ρ2 w2
    | .ct => ∃ k', k' < k ∧ Inv k' ρ2 w2
    | .bk => Q .nx ρ2 w2
    | .ret r => Q (.ret r) ρ2 w2) (n k : Nat) (ρ : Env) (w : W) (hk : k < n) (h : Inv k ρ w) : R (whileM t body n) ρ w Q := by
  refine R_while Inv (fun k ρ w h => (test k ρ w h).mono fun b ρ1 w1 q => ?_) n k ρ w hk h
  cases b with
  | true => exact step k ρ1 w1 q
  | false => exact q
@[simp] theorem R_iterM {r : RV} {Q : List D → Env → W → Prop} : R (iterM r) ρ w Q ↔ R (escR r) ρ w fun d ρ' w' => ∃ ds, iterD d = some ds ∧ Q ds ρ' w' := by
  unfold iterM
  rw [R_bind]
  constructor
  · intro h
    refine h.mono fun d ρ' w' h => ?_
    obtain ⟨a, ρ2, w2, e, q⟩ := h
    split at e
    · rename_i e2
      cases e
      exact ⟨_, e2, q⟩
    · cases e
  · intro h
    refine h.mono fun d ρ' w' h => ?_
    obtain ⟨ds, e, q⟩ := h
    exact ⟨ds, ρ', w', by simp [e], q⟩
theorem R_lift1g {g : D → Option RV} {r1 : RV} {Q : RV → Env → W → Prop} : R (lift1 g r1) ρ w Q ↔ ∃ d1, peek ρ r1 = some d1 ∧ ∃ r, g d1 = some r ∧ Q r ρ w := by
  constructor
  · rintro ⟨a, ρ', w', e, q⟩
    obtain ⟨d1, r, p1, eg, ez⟩ := lift1_some e
    cases ez
    exact ⟨d1, p1, _, eg, q⟩
  · rintro ⟨d1, p1, r, eg, q⟩
    exact (R_lift1' p1).mpr ⟨r, eg, q⟩
theorem R_lift2g {g : D → D → Option RV} {r1 r2 : RV} {Q : RV → Env → W → Prop} : R (lift2 g r1 r2) ρ w Q ↔ ∃ d1, peek ρ r1 = some d1 ∧ ∃ d2, peek ρ r2 = some d2 ∧ ∃ r, g d1 d2 = some r ∧ Q r ρ w := by
  constructor
  · rintro ⟨a, ρ', w', e, q⟩
    obtain ⟨d1, d2, r, p1, p2, eg, ez⟩ := lift2_some e
    cases ez
    exact ⟨d1, p1, d2, p2, _, eg, q⟩
  · rintro ⟨d1, p1, d2, p2, r, eg, q⟩
    exact (R_lift2' p1 p2).mpr ⟨r, eg, q⟩
theorem R_liftNg {g : List D → Option RV} {rs : List RV} {Q : RV → Env → W → Prop} : R (liftN g rs) ρ w Q ↔ ∃ ds, peeks ρ rs = some ds ∧ ∃ r, g ds = some r ∧ Q r ρ w := by
  constructor
  · rintro ⟨a, ρ', w', e, q⟩
    obtain ⟨ds, r, p1, eg, ez⟩ := liftN_some e
    cases ez
    exact ⟨ds, p1, _, eg, q⟩
  · rintro ⟨ds, p1, r, eg, q⟩
    exact (R_liftN p1).mpr ⟨r, eg, q⟩
def PopQ (i : Nat) (Q : RV → Env → W → Prop) (r : RV) (ρ1 : Env) (w1 : W) : Prop := ∃ k ds d, r = .sh (.int k) ∧ ownL ρ1 i = some ds ∧ (0 ≤ k ∧ k < ds.length ∧ ds.length < 1000000) ∧ ds[k.toNat]? = some d ∧ Q (.sh d) (ρ1.set i (some (.own (.lst (ds.eraseIdx k.toNat))))) w1
theorem R_popQ {fe : M RV} {i : Nat} {Q : RV → Env → W → Prop} {ds0 : List D} (h0 : ownL ρ i = some ds0) (h : R fe ρ w (PopQ i Q)) : R (popM i fe) ρ w Q := R_pop h0 h
theorem PopQ.mk {i : Nat} {Q : RV → Env → W → Prop} {k : Nat} {ds : List D} (e : ownL ρ i = some ds) (h : k < ds.length) (h2 : ds.length < 1000000) (q : Q (.sh ds[k]) (ρ.set i (some (.own (.lst (ds.eraseIdx k))))) w) : PopQ i Q (.sh (.int (k : Int))) ρ w :=
  ⟨k, ds, ds[k], rfl, e, ⟨by omega, by omega, h2⟩, by simp [h], by simpa using q⟩
def AppQ (i : Nat) (Q : RV → Env → W → Prop) (d : D) (ρ2 : Env) (w2 : W) : Prop := ∃ ds, ownL ρ2 i = some ds ∧ ds.length < 1000000 ∧ Q (.sh .non) (ρ2.set i (some (.own (.lst (ds ++ [d]))))) w2
theorem R_appQ {fe : M RV} {i : Nat} {Q : RV → Env → W → Prop} {ds0 : List D} (h0 : ownL ρ i = some ds0) (h : R fe ρ w fun r ρ1 w1 => R (escR r) ρ1 w1 (AppQ i Q)) : R (appM i fe) ρ w Q := R_app h0 h
@[simp] theorem R_eqOM {cn : Str} {ic : List (Str × Bool)} {den : List D → W → Option (RV × W)} {ne : Bool} {fa fb : M RV} {Q : RV → Env → W → Prop} : R (eqOM cn ic den ne fa fb) ρ w Q ↔ R fa ρ w fun r1 ρ1 w1 => R fb ρ1 w1 fun r2 ρ2 w2 => R (escR r1) ρ2 w2 fun d1 ρ3 w3 => R (escR r2) ρ3 w3 fun d2 ρ4 w4 => (∃ gs, d1 = .ins cn gs) ∧ isiD (fun _ => true) ic d2 = some true ∧ Ran (den [d1, d2] w4) fun r w' => ∃ b, r = .sh (.bl b) ∧ Q (.sh (.bl (if ne then !b else b))) ρ4 w' := by
  constructor
  · rintro ⟨a, ρ', w', e, q⟩
    unfold eqOM at e
    obtain ⟨r1, ρ1, w1, e1, f1⟩ := bindM_some e
    obtain ⟨r2, ρ2, w2, e2, f2⟩ := bindM_some f1
    obtain ⟨ds, ρ3, w3, e3, f3⟩ := bindM_some f2
    obtain ⟨d1, ρ4, w4, e4, e5⟩ := bindM_some e3
    obtain ⟨ds', ρ5, w5, e6, e7⟩ := bindM_some e5
    obtain ⟨d2, ρ6, w6, e8, e9⟩ := bindM_some e6
    cases e9
    cases e7
    clear e f1 f2
    refine ⟨r1, ρ1, w1, e1, r2, ρ2, w2, e2, d1, ρ4, w4, e4, d2, _, _, e8, ?_⟩
    cases d1 with
    | ins c' gs =>
      dsimp only at f3
      by_cases hc : c' = cn ∧ isiD (fun _ => true) ic d2 = some true
      · rw [if_pos hc] at f3
        obtain ⟨rfl, hi⟩ := hc
        obtain ⟨r, ρ7, w7, e10, e11⟩ := bindM_some f3
        obtain ⟨r', w8, e12, ez⟩ := runD_some e10
        cases ez
        refine ⟨⟨gs, rfl⟩, hi, _, _, e12, ?_⟩
        split at e11
        · cases e11
          exact ⟨_, rfl, q⟩
        · cases e11
      · rw [if_neg hc] at f3
        cases f3
    | _ => cases f3
  · rintro ⟨r1, ρ1, w1, e1, r2, ρ2, w2, e2, d1, ρ3, w3, e3, d2, ρ4, w4, e4, ⟨gs, rfl⟩, hi, r, w', e5, b, rfl, q⟩
    exact R_eqO ⟨r1, ρ1, w1, e1, r2, ρ2, w2, e2, _, ρ3, w3, e3, d2, ρ4, w4, e4, gs, rfl, hi, _, w', e5, b, rfl, q⟩
theorem R_then {f g : M Fl} {Q : Fl → Env → W → Prop} (P : Env → W → Prop) (h : R f ρ w fun fl ρ' w' => fl = .nx ∧ P ρ' w') (k : ∀ ρ' w', P ρ' w' → R g ρ' w' Q) : R (seqM f g) ρ w Q := by
  rw [R_seq]
  refine h.mono fun fl ρ' w' hp => ?_
  obtain ⟨rfl, hp⟩ := hp
  exact k ρ' w' hp
theorem noOwn_true {vs : List Nat} (h : ∀ i ∈ vs, ∀ d, ρ[i]? ≠ some (some (.own d))) : noOwn ρ vs = true := by
  unfold noOwn
  refine List.all_eq_true.mpr fun i hi => ?_
  split
  · rename_i e
    exact absurd e (h i hi _)
  · rfl
end
theorem allD_bl (bs : List Bool) : allD [.lst (bs.map D.bl)] = some (.sh (.bl (bs.all id))) := by
  show Option.map _ (asBls _) = _
  rw [asBls_map]
  rfl
theorem allD_map {α : Type} (f : α → Bool) (l : List α) : allD [.lst (l.map fun a => D.bl (f a))] = some (.sh (.bl (l.all f))) := by
  have e : (l.map fun a => D.bl (f a)) = (l.map f).map D.bl := by simp
  rw [e, allD_bl]
  simp
theorem atI_nat {α : Type} (xs : List α) (i : Nat) (h : i < xs.length) : L2.atI xs (i : Int) = some xs[i] := by
  unfold L2.atI L2.ixN
  simp [h]
end FD

end sec_EV4
section sec_MA
set_option maxRecDepth 100000
set_option maxHeartbeats 5000000
/-! MA: closures, plainly. -/
namespace KL
open ST (Up up_eq setN mem_setN up_setN)
def U : List Nat := [97, 98, 99, 100, 114]
inductive InCl (cs : List Nat) (ds : List (List Nat × Nat)) (l : List Nat) : Nat → Prop
  | base {c : Nat} : c ∈ l → InCl cs ds l c
  | row {c : Nat} : InCl cs ds l 114 → c ∈ cs → InCl cs ds l c
  | dep {lo : List Nat} {c : Nat} : (lo, c) ∈ ds → (∀ x ∈ lo, InCl cs ds l x) → InCl cs ds l c
/-- a closed set -/
def Cld (cs : List Nat) (ds : List (List Nat × Nat)) (f : List Nat) : Prop := (114 ∈ f → ∀ c ∈ cs, c ∈ f) ∧ ∀ p ∈ ds, (∀ x ∈ p.1, x ∈ f) → p.2 ∈ f
section
variable {cs : List Nat} {ds es : List (List Nat × Nat)} {l f : List Nat} {c : Nat}
theorem InCl.le (h : Cld cs ds f) (hl : ∀ x ∈ l, x ∈ f) (hc : InCl cs ds l c) : c ∈ f := by
  induction hc with
  | base h1 => exact hl _ h1
  | row h1 h2 ih => exact h.1 ih _ h2
  | dep h1 h2 ih => exact h.2 _ h1 ih
theorem InCl.mono (h : ∀ p ∈ ds, ∀ m, (∀ x ∈ p.1, InCl cs es m x) → InCl cs es m p.2) (hc : InCl cs ds l c) : InCl cs es l c := by
  induction hc with
  | base h1 => exact .base h1
  | row h1 h2 ih => exact .row ih h2
  | dep h1 h2 ih => exact h _ h1 _ ih
theorem InCl.trans {m : List Nat} (h : ∀ x ∈ m, InCl cs ds l x) (hc : InCl cs ds m c) : InCl cs ds l c := by
  induction hc with
  | base h1 => exact h _ h1
  | row h1 h2 ih => exact .row ih h2
  | dep h1 h2 ih => exact .dep h1 ih
/-- columns, dependences, sets -/
def Col (cs : List Nat) : Prop := cs.Sublist [97, 98, 99, 100] ∧ cs ≠ []
def Set_ (cs l : List Nat) : Prop := l.Sublist (cs ++ [114])
def Dep (cs : List Nat) (p : List Nat × Nat) : Prop := Set_ cs p.1 ∧ p.2 ∈ cs ++ [114]
theorem upU : Up U := by decide
theorem Col.sub (h : Col cs) : (cs ++ [114]).Sublist U := by
  have := h.1.append (List.Sublist.refl [114])
  exact this
theorem Col.up (h : Col cs) : Up (cs ++ [114]) := upU.sublist h.sub
theorem Col.upc (h : Col cs) : Up cs := List.Pairwise.sublist h.1 (by decide)
theorem Set_.up (h : Col cs) (s : Set_ cs l) : Up l := h.up.sublist s
theorem Set_.len (h : Col cs) (s : Set_ cs l) : l.length ≤ 5 := (s.trans h.sub).length_le
theorem Col.len (h : Col cs) : cs.length ≤ 4 := h.1.length_le
theorem Col.mem (h : Col cs) : ∀ x ∈ cs, x ∈ [97, 98, 99, 100] := fun x hx => h.1.subset hx
/-- an ascending list of members is a sublist -/
theorem sub_of_up : ∀ {l m : List Nat}, Up l → Up m → (∀ x ∈ l, x ∈ m) → l.Sublist m
  | [], m, _, _, _ => List.nil_sublist m
  | x :: l, [], _, _, h => by cases h x List.mem_cons_self
  | x :: l, y :: m, hl, hm, h => by
    obtain ⟨l1, l2⟩ := List.pairwise_cons.mp hl
    obtain ⟨m1, m2⟩ := List.pairwise_cons.mp hm
    by_cases e : x = y
    · subst e
      refine (sub_of_up l2 m2 fun z hz => ?_).cons₂ x
      rcases List.mem_cons.mp (h z (List.mem_cons_of_mem _ hz)) with q | q
      · have := l1 z hz
        omega
      · exact q
    · refine (sub_of_up hl m2 fun z hz => ?_).cons y
      rcases List.mem_cons.mp (h z hz) with q | q
      · subst q
        rcases List.mem_cons.mp hz with q | q
        · exact absurd q.symm e
        · have a := l1 z q
          rcases List.mem_cons.mp (h x List.mem_cons_self) with b | b
          · exact absurd b e
          · have := m1 x b
            omega
      · exact q
noncomputable def cl (cs : List Nat) (ds : List (List Nat × Nat)) (l : List Nat) : List Nat := (cs ++ [114]).filter fun c => @decide (InCl cs ds l c) (Classical.propDecidable _)
theorem InCl.inn (hd : ∀ p ∈ ds, p.2 ∈ cs ++ [114]) (hl : ∀ x ∈ l, x ∈ cs ++ [114]) (hc : InCl cs ds l c) : c ∈ cs ++ [114] := by
  induction hc with
  | base h1 => exact hl _ h1
  | row h1 h2 ih => exact List.mem_append_left _ h2
  | dep h1 h2 ih => exact hd _ h1
theorem mem_cl (hd : ∀ p ∈ ds, Dep cs p) (hl : ∀ x ∈ l, x ∈ cs ++ [114]) : c ∈ cl cs ds l ↔ InCl cs ds l c := by
  unfold cl
  rw [List.mem_filter]
  simp only [decide_eq_true_eq]
  exact ⟨fun h => h.2, fun h => ⟨h.inn (fun p hp => (hd p hp).2) hl, h⟩⟩
theorem cl_set : Set_ cs (cl cs ds l) := List.filter_sublist
theorem cl_up (h : Col cs) : Up (cl cs ds l) := cl_set.up h
theorem cl_eq (h : Col cs) (hd : ∀ p ∈ ds, Dep cs p) (hl : ∀ x ∈ l, x ∈ cs ++ [114]) (hf : Up f) (h1 : ∀ c, c ∈ f ↔ InCl cs ds l c) : f = cl cs ds l := up_eq hf (cl_up h) fun x => (h1 x).trans (mem_cl hd hl).symm
theorem cl_of_closed (h : Col cs) (hd : ∀ p ∈ ds, Dep cs p) (hl : ∀ x ∈ l, x ∈ cs ++ [114]) (hf : Up f) (h1 : ∀ x ∈ l, x ∈ f) (h2 : Cld cs ds f) (h3 : ∀ x ∈ f, InCl cs ds l x) : f = cl cs ds l := cl_eq h hd hl hf fun c => ⟨h3 c, fun q => q.le h2 h1⟩
theorem cl_same (h : ∀ p ∈ ds, ∀ m, (∀ x ∈ p.1, InCl cs es m x) → InCl cs es m p.2) (h' : ∀ p ∈ es, ∀ m, (∀ x ∈ p.1, InCl cs ds m x) → InCl cs ds m p.2) : cl cs ds l = cl cs es l := by
  unfold cl
  apply List.filter_congr
  intro c _
  rw [decide_eq_decide]
  exact ⟨fun q => q.mono h, fun q => q.mono h'⟩
end
end KL

end sec_MA
section sec_S1
set_option maxRecDepth 100000
set_option maxHeartbeats 5000000
/-! S1: the program's functions over sets. -/
namespace KL
open PySem L2 FD
open ST (Up up_eq setN mem_setN up_setN)
theorem within_eq {a b : List Nat} {w : W} (ha : a.length ≤ 1000000) : D_within [S a, S b] w = some (.sh (.bl (a.all fun c => decide (c ∈ b))), w) := by
  refine D_eq ?_
  simp [d_within, startE, R_var, R_lcM, R_iter, iterD_S]
  refine ⟨⟨rfl, ha⟩, ?_⟩
  refine R_lcMap (fun c => S [c]) (fun c => .bl (decide (c ∈ b))) a (fun c hc => ?_) ?_
  · simp [R_var, inS_S, wipeE]
  · simp [R_liftN, peeks, peek, allD_map, outR]
theorem lit_e : (("" : Str)) = st [] := rfl
theorem lit_r : (("r" : Str)) = st [114] := by decide +kernel
theorem lit_abcd : (("abcd" : Str)) = st [97, 98, 99, 100] := by decide +kernel
theorem joinD_signs {l : List Nat} (h : l.length ≤ 1000000) : joinD (st []) (.lst (l.map fun c => S [c])) = some (.sh (S l)) := by
  have e : (l.map fun c => S [c]) = (l.map fun c => [c]).map S := by simp
  have e2 : (l.map fun c => [c]).flatten = l := by
    clear e h
    induction l with
    | nil => rfl
    | cons a l ih => simp [ih]
  rw [e, joinD_S (by rw [e2]; exact h), e2]
theorem setN_len (l : List Nat) : (setN l).length ≤ l.length := by
  induction l with
  | nil => exact Nat.le_refl _
  | cons c l ih =>
    have : ∀ (m : List Nat), (ST.insN c m).length ≤ m.length + 1 := by
      intro m
      induction m with
      | nil => simp [ST.insN]
      | cons d m ih =>
        unfold ST.insN
        split
        · simp
        · split
          · simp
          · simp only [List.length_cons]
            omega
    have := this (setN l)
    show (ST.insN c (setN l)).length ≤ _
    simp only [List.length_cons]
    omega
theorem joined_eq {a b : List Nat} {w : W} (h : a.length + b.length < 4000) : D_joined [S a, S b] w = some (.sh (S (setN (a ++ b))), w) := by
  refine D_eq ?_
  have hs := setN_len (a ++ b)
  rw [List.length_append] at hs
  simp [d_joined, startE, R_var, addD_S (show a.length + b.length ≤ 1000000 by omega), h, lit_e, sset_S, R_lift1', peek, joinD_signs (show (setN (a ++ b)).length ≤ 1000000 by omega), outR]
theorem rises_eq {a : List Nat} {w : W} (h : a.length ≤ 1000) : D_rises [S a] w = some (.sh (.bl (decide (Up a))), w) := by
  refine D_eq ?_
  have e0 : (st a).length ≤ 1000000 := by rw [st_len]; omega
  simp [d_rises, startE, R_var, R_lcM, lenD_S (show a.length ≤ 1000000 by omega), R_liftN, peeks, peek, intD, i0]
  rw [R_range (n := a.length - 1) rfl (by omega)]
  refine ⟨⟨rfl, by simp; omega⟩, ?_⟩
  refine R_lcMap (fun i : Nat => D.int (i : Int)) (fun i => .bl (decide (a.getD i 0 < a.getD (i + 1) 0))) _ (fun c hc => ?_) ?_
  · have hc' : c + 1 < a.length := by
      have := List.mem_range.mp hc
      omega
    have e1 := atI_nat a c (by omega)
    have e2 := atI_nat a (c + 1) hc'
    simp at e2
    have e3 : c < a.length := by omega
    simp [R_var, wipeE, ixD, e0, e1, e2, addD, ordD, ltS, hc', e3, List.cons_lt_cons_iff]
  · simp [R_liftN, peeks, peek, allD_map, outR]
    rw [Bool.eq_iff_iff]
    simp only [List.all_eq_true, List.mem_range, decide_eq_true_eq]
    constructor
    · intro hh
      refine List.pairwise_iff_getElem.mpr ?_
      intro i j hi hj hij
      induction j with
      | zero => omega
      | succ j ih =>
        have q := hh j (by omega)
        have hj' : j < a.length := by omega
        simp [hj, hj'] at q
        by_cases e : i = j
        · subst e
          exact q
        · have := ih hj' (by omega)
          omega
    · intro hu x hx
      have q := List.pairwise_iff_getElem.mp hu x (x + 1) (by omega) (by omega) (by omega)
      have h1 : x < a.length := by omega
      have h2 : x + 1 < a.length := by omega
      simpa [h1, h2] using q
end KL

end sec_S1
section sec_P4
set_option maxRecDepth 100000
set_option maxHeartbeats 5000000
/-! P4: sets, dependences, closures. -/
namespace KL
open PySem L2 FD
open ST (Up up_eq setN mem_setN up_setN)
theorem is_set_eq {cs a : List Nat} {w : W} (hc : cs.length ≤ 1000) (h : a.length ≤ 1000) : D_is_set [S cs, S a] w = some (.sh (.bl (decide (Up a) && a.all fun c => decide (c ∈ cs ++ [114]))), w) := by
  refine D_eq ?_
  simp [d_is_set, startE, R_var, isiD, tyB, bt_str, rises_eq h]
  by_cases hu : Up a
  · simp only [hu, if_true, decide_true, Bool.true_and]
    simp [R_var, R_lcM, R_iter, iterD_S]
    refine ⟨⟨rfl, by omega⟩, ?_⟩
    refine R_lcMap (fun c => S [c]) (fun c => .bl (decide (c ∈ cs ++ [114]))) a (fun c hc' => ?_) ?_
    · simp [R_var, wipeE, lit_r, addD_S (show cs.length + [114].length ≤ 1000000 by simp; omega), inS_S]
    · simp [R_liftN, peeks, peek, allD_map, outR]
  · simp [hu, outR]
theorem need_set_eq {cs a : List Nat} {w : W} (hc : cs.length ≤ 1000) (h : a.length ≤ 1000) (h1 : Up a) (h2 : ∀ c ∈ a, c ∈ cs ++ [114]) : D_need_set [S cs, S a] w = some (.sh .non, w) := by
  refine D_eq ?_
  have e : (decide (Up a) && a.all fun c => decide (c ∈ cs ++ [114])) = true := by
    simp only [Bool.and_eq_true, decide_eq_true_eq, List.all_eq_true]
    exact ⟨h1, h2⟩
  have e2 := is_set_eq (w := w) hc h
  rw [e] at e2
  simp [d_need_set, startE, R_var, e2]
abbrev depD (p : List Nat × Nat) : D := .tup [S p.1, S [p.2]]
/-- the for of closure_of -/
theorem closure_for {cs : List Nat} {ds : List (List Nat × Nat)} {l : List Nat} {w : W} (hC : Col cs) (hd : ∀ p ∈ ds, Dep cs p) (hl : Set_ cs l) {ρ4 x5 x6 : Option Slot} {T : D} {f0 : List Nat} (hf0 : Up f0) (hf1 : ∀ x ∈ f0, InCl cs ds l x) {Q : Fl → FD.Env → W → Prop}
    (q : ∀ f x5 x6, Up f → (∀ x ∈ f, InCl cs ds l x) → (∀ x ∈ f0, x ∈ f) → (∀ p ∈ ds, (∀ x ∈ p.1, x ∈ f0) → p.2 ∈ f) → Q .nx [some (.val (S cs)), some (.val T), some (.val (S l)), some (.val (S f)), ρ4, x5, x6] w) :
    R (forL (gTupM (gConsM (gNameM 5) (gConsM (gNameM 6) gNilM))) (ifM (boolM (callM D_within [] (consA (varM 5) (consA (varM 3) (pureM []))))) (setM' 3 (callM D_joined [] (consA (varM 3) (consA (varM 6) (pureM []))))) (pureM .nx)) (ds.map depD)) [some (.val (S cs)), some (.val T), some (.val (S l)), some (.val (S f0)), ρ4, x5, x6] w Q := by
  obtain ⟨J, hJ⟩ : ∃ J : List (List Nat × Nat) → FD.Env → W → Prop, ∀ rest ρ w', J rest ρ w' ↔ (w' = w ∧ ∃ f x5 x6, ρ = [some (.val (S cs)), some (.val T), some (.val (S l)), some (.val (S f)), ρ4, x5, x6] ∧ Up f ∧ (∀ x ∈ f, InCl cs ds l x) ∧ (∀ x ∈ f0, x ∈ f) ∧ (∀ p ∈ rest, p ∈ ds) ∧ ∀ p ∈ ds, (∀ x ∈ p.1, x ∈ f0) → p.2 ∈ f ∨ p ∈ rest) := ⟨_, fun _ _ _ => Iff.rfl⟩
  refine R_forLm depD J ?_ ?_ ds _ _ ((hJ _ _ _).mpr ⟨rfl, f0, x5, x6, rfl, hf0, hf1, fun _ h => h, fun _ h => h, fun p h _ => .inr h⟩)
  · rintro ⟨lo, c⟩ rest ρ w' h
    obtain ⟨rfl, f, x5, x6, rfl, hf, hi, h0, hr, hp⟩ := (hJ _ _ _).mp h
    have hm := hr (lo, c) List.mem_cons_self
    have hD := hd _ hm
    have hlo : lo.length ≤ 5 := hD.1.len hC
    have hin : ∀ x ∈ f, x ∈ cs ++ [114] := fun x hx => (hi x hx).inn (fun p hp => (hd p hp).2) fun y hy => hl.subset hy
    have hfl : f.length ≤ 5 := Nat.le_trans (sub_of_up hf hC.up hin).length_le (by have := hC.len; simp; omega)
    by_cases hw : ∀ x ∈ lo, x ∈ f
    · have hw' : (lo.all fun c => decide (c ∈ f)) = true := by simpa using hw
      have hj := joined_eq (a := f) (b := [c]) (w := w') (by simp only [List.length_cons, List.length_nil]; omega)
      simp [R_var, within_eq (show lo.length ≤ 1000000 by omega), hw', hj]
      refine (hJ _ _ _).mpr ⟨rfl, _, _, _, rfl, up_setN _, fun x hx => ?_, fun x hx => ?_, fun p hp => hr p (List.mem_cons_of_mem _ hp), fun p hab h => ?_⟩
      · rcases List.mem_append.mp (mem_setN.mp hx) with hx | hx
        · exact hi x hx
        · rw [List.mem_singleton.mp hx]
          exact .dep hm fun y hy => hi y (hw y hy)
      · exact mem_setN.mpr (List.mem_append_left _ (h0 x hx))
      · rcases hp p hab h with z | z
        · exact .inl (mem_setN.mpr (List.mem_append_left _ z))
        · rcases List.mem_cons.mp z with z | z
          · rw [z]
            exact .inl (mem_setN.mpr (List.mem_append_right _ (List.mem_singleton.mpr rfl)))
          · exact .inr z
    · have hw' : (lo.all fun c => decide (c ∈ f)) = false := by simpa using hw
      simp [R_var, within_eq (show lo.length ≤ 1000000 by omega), hw']
      refine (hJ _ _ _).mpr ⟨rfl, f, _, _, rfl, hf, hi, h0, fun p hp => hr p (List.mem_cons_of_mem _ hp), fun p hab h => ?_⟩
      rcases hp p hab h with z | z
      · exact .inl z
      · rcases List.mem_cons.mp z with z | z
        · rw [z] at h
          exact absurd (fun x hx => h0 x (h x hx)) hw
        · exact .inr z
  · intro ρ w' h
    obtain ⟨rfl, f, x5, x6, rfl, hf, hi, h0, hr, hp⟩ := (hJ _ _ _).mp h
    exact q f x5 x6 hf hi h0 fun p h1 h2 => (hp p h1 h2).elim id fun z => nomatch z
theorem closure_of_eqD {cs : List Nat} {ds : List (List Nat × Nat)} {dd : D} (it : iterD dd = some (ds.map depD)) {l : List Nat} {w : W} (hC : Col cs) (hd : ∀ p ∈ ds, Dep cs p) (hl : Set_ cs l) : D_closure_of [S cs, dd, S l] w = some (.sh (S (cl cs ds l)), w) := by
  refine D_eq ?_
  simp [d_closure_of, startE, R_var]
  have hin : ∀ f : List Nat, (∀ x ∈ f, InCl cs ds l x) → ∀ x ∈ f, x ∈ cs ++ [114] := fun f hi x hx => (hi x hx).inn (fun p hp => (hd p hp).2) fun y hy => hl.subset hy
  have hlen : ∀ f : List Nat, Up f → (∀ x ∈ f, InCl cs ds l x) → f.length ≤ 5 := fun f hf hi => Nat.le_trans (sub_of_up hf hC.up (hin f hi)).length_le (by have := hC.len; simp; omega)
  have cp : ∀ f : List Nat, (∀ x ∈ f, InCl cs ds l x) → CpOk f := fun f hi x hx => by
    have := hC.sub.subset (hin f hi x hx)
    simp [U] at this
    omega
  obtain ⟨J, hJ⟩ : ∃ J : Nat → FD.Env → W → Prop, ∀ k ρ w', J k ρ w' ↔ (w' = w ∧ ∃ f x4 x5 x6, ρ = [some (.val (S cs)), some (.val dd), some (.val (S l)), some (.val (S f)), some (.val x4), x5, x6] ∧ Up f ∧ (∀ x ∈ f, InCl cs ds l x) ∧ (∀ x ∈ l, x ∈ f) ∧
    ((x4 = .non ∧ k = 7 - f.length) ∨ ∃ b, x4 = S b ∧ (∀ x ∈ b, InCl cs ds l x) ∧ ((b ≠ f ∧ k = 7 - f.length) ∨ (b = f ∧ k = 0 ∧ Cld cs ds f)))) := ⟨_, fun _ _ _ => Iff.rfl⟩
  obtain ⟨B, hB⟩ : ∃ B : Nat → FD.Env → W → Prop, ∀ k ρ w', B k ρ w' ↔ (w' = w ∧ ∃ f x4 x5 x6, ρ = [some (.val (S cs)), some (.val dd), some (.val (S l)), some (.val (S f)), some (.val x4), x5, x6] ∧ Up f ∧ (∀ x ∈ f, InCl cs ds l x) ∧ (∀ x ∈ l, x ∈ f) ∧ k = 7 - f.length) := ⟨_, fun _ _ _ => Iff.rfl⟩
  refine R_while2 J B ?_ ?_ 1000000 _ _ _ (by omega : 7 - l.length < 1000000) ((hJ _ _ _).mpr ⟨rfl, l, .non, none, none, rfl, hl.up hC, fun x hx => .base hx, fun _ h => h, .inl ⟨rfl, rfl⟩⟩)
  · intro k ρ w' h
    obtain ⟨rfl, f, x4, x5, x6, rfl, hf, hi, hlf, h4⟩ := (hJ _ _ _).mp h
    rcases h4 with ⟨rfl, hk⟩ | ⟨b, rfl, hb, ⟨hne, hk⟩ | ⟨rfl, hk, hcl⟩⟩
    · have e : neD (S f) .non = some (.sh (.bl true)) := by
        simp [neD, cmpD, toPy, shaped_str (cp f hi)]
        exact ⟨rfl, rfl⟩
      simp [R_var, e]
      exact (hB _ _ _).mpr ⟨rfl, f, _, _, _, rfl, hf, hi, hlf, hk⟩
    · have e : neD (S f) (S b) = some (.sh (.bl true)) := by rw [neD_S (cp f hi) (cp b hb)]; simp [Ne.symm hne]
      simp [R_var, e]
      exact (hB _ _ _).mpr ⟨rfl, f, _, _, _, rfl, hf, hi, hlf, hk⟩
    · have e : neD (S b) (S b) = some (.sh (.bl false)) := by rw [neD_S (cp b hi) (cp b hi)]; simp
      simp [R_var, e, outR]
      rw [cl_of_closed hC hd (fun x hx => hl.subset hx) hf hlf hcl hi]
  · intro k ρ w' h
    obtain ⟨rfl, f, x4, x5, x6, rfl, hf, hi, hlf, hk⟩ := (hB _ _ _).mp h
    have hfl := hlen f hf hi
    have fin : ∀ f1, Up f1 → (∀ x ∈ f1, InCl cs ds l x) → (∀ x ∈ f, x ∈ f1) → (114 ∈ f → ∀ c ∈ cs, c ∈ f1) → ∀ f2, Up f2 → (∀ x ∈ f2, InCl cs ds l x) → (∀ x ∈ f1, x ∈ f2) → (∀ p ∈ ds, (∀ x ∈ p.1, x ∈ f1) → p.2 ∈ f2) → ∀ x5 x6, ∃ k', k' < k ∧ J k' [some (.val (S cs)), some (.val dd), some (.val (S l)), some (.val (S f2)), some (.val (S f)), x5, x6] w' := by
      intro f1 u1 i1 s1 r1 f2 u2 i2 s2 d2 x5 x6
      by_cases e : f = f2
      · refine ⟨0, by omega, (hJ _ _ _).mpr ⟨rfl, f2, _, _, _, rfl, u2, i2, fun x hx => s2 x (s1 x (hlf x hx)), .inr ⟨f, rfl, hi, .inr ⟨e, rfl, ?_⟩⟩⟩⟩
        subst e
        exact ⟨fun h c hc => s2 c (r1 h c hc), fun p hp h => d2 p hp fun x hx => s1 x (h x hx)⟩
      · refine ⟨7 - f2.length, ?_, (hJ _ _ _).mpr ⟨rfl, f2, _, _, _, rfl, u2, i2, fun x hx => s2 x (s1 x (hlf x hx)), .inr ⟨f, rfl, hi, .inl ⟨e, rfl⟩⟩⟩⟩
        have sb := sub_of_up hf u2 fun x hx => s2 x (s1 x hx)
        have := sb.length_le
        have h2 := hlen f2 u2 i2
        have : f.length ≠ f2.length := fun z => e (sb.eq_of_length z)
        omega
    by_cases h114 : 114 ∈ f
    · have hj := joined_eq (a := f) (b := cs) (w := w') (by have := hC.len; omega)
      have i1 : ∀ x ∈ setN (f ++ cs), InCl cs ds l x := fun x hx => by
        rcases List.mem_append.mp (mem_setN.mp hx) with z | z
        · exact hi x z
        · exact .row (hi _ h114) z
      simp [R_var, lit_r, inS_S, h114, hj, R_iter, it]
      exact closure_for hC hd hl (up_setN _) i1 fun f2 x5 x6 u2 i2 s2 d2 => fin (setN (f ++ cs)) (up_setN _) i1 (fun x hx => mem_setN.mpr (List.mem_append_left _ hx)) (fun _ c hc => mem_setN.mpr (List.mem_append_right _ hc)) f2 u2 i2 s2 d2 x5 x6
    · simp [R_var, lit_r, inS_S, h114, R_iter, it]
      exact closure_for hC hd hl hf hi fun f2 x5 x6 u2 i2 s2 d2 => fin f hf hi (fun _ h => h) (fun h => absurd h h114) f2 u2 i2 s2 d2 x5 x6
theorem closure_of_eq {cs : List Nat} {ds : List (List Nat × Nat)} {l : List Nat} {w : W} (hC : Col cs) (hd : ∀ p ∈ ds, Dep cs p) (hl : Set_ cs l) : D_closure_of [S cs, .tup (ds.map depD), S l] w = some (.sh (S (cl cs ds l)), w) := closure_of_eqD rfl hC hd hl
end KL

end sec_P4
section sec_P5
set_option maxRecDepth 100000
set_option maxHeartbeats 5000000
/-! P5: schemes. -/
namespace KL
open PySem L2 FD
open ST (Up up_eq setN mem_setN up_setN)
theorem Set_.b {cs a : List Nat} (hC : Col cs) (h : Set_ cs a) : (decide (Up a) && a.all fun c => decide (c ∈ cs ++ [114])) = true := by
  simp only [Bool.and_eq_true, decide_eq_true_eq, List.all_eq_true]
  exact ⟨h.up hC, fun c hc => h.subset hc⟩
theorem one_set {cs : List Nat} {c : Nat} (h : c ∈ cs ++ [114]) : Set_ cs [c] := List.singleton_sublist.mpr h
theorem is_dependence_eq {cs : List Nat} {p : List Nat × Nat} {w : W} (hC : Col cs) (hp : Dep cs p) : D_is_dependence [S cs, depD p] w = some (.sh (.bl true), w) := by
  refine D_eq ?_
  have hc := hC.len
  have h1 := hp.1.len hC
  have e1 := is_set_eq (cs := cs) (a := p.1) (w := w) (by omega) (by omega)
  have e2 := is_set_eq (cs := cs) (a := [p.2]) (w := w) (by omega) (by simp)
  rw [hp.1.b hC] at e1
  rw [(one_set hp.2).b hC] at e2
  have a0 : L2.atI [S p.1, S [p.2]] 0 = some (S p.1) := rfl
  have a1 : L2.atI [S p.1, S [p.2]] 1 = some (S [p.2]) := rfl
  simp [d_is_dependence, startE, R_var, isiD, tyB, bt_tuple, R_liftN, peeks, peek, lenD, neD_int, ixD, a0, a1, e1, e2, eqD_int, st_len, outR]
theorem numD_map {α : Type} (f : α → D) : ∀ (l : List α) (n : Nat), numD n (l.map f) = (l.zipIdx n).map fun p => .tup [.int p.2, f p.1]
  | [], _ => rfl
  | a :: l, n => by
    rw [List.map_cons, List.zipIdx_cons, List.map_cons, ← numD_map f l (n + 1)]
    rfl
theorem need_dependences_eqD {cs : List Nat} {ds : List (List Nat × Nat)} {d : D} {w : W} (e1 : isiD bt_list_tuple ic_list_tuple d = some true) (e2 : seqD d = some (ds.map depD)) (hC : Col cs) (hd : ∀ p ∈ ds, Dep cs p) (hl : ds.length ≤ 20) : D_need_dependences [S cs, d] w = some (.sh .non, w) := by
  refine D_eq ?_
  simp [d_need_dependences, startE, R_var, e1, R_enumM, e2, numD_map]
  obtain ⟨J, hJ⟩ : ∃ J : List ((List Nat × Nat) × Nat) → FD.Env → W → Prop, ∀ rest ρ w', J rest ρ w' ↔ (w' = w ∧ (∀ p ∈ rest, p.1 ∈ ds ∧ p.2 < 20) ∧ ∃ x2 x3, ρ = [some (.val (S cs)), some (.val d), x2, x3]) := ⟨_, fun _ _ _ => Iff.rfl⟩
  refine R_forLm (fun p : (List Nat × Nat) × Nat => .tup [.int p.2, depD p.1]) J ?_ ?_ _ _ _ ((hJ _ _ _).mpr ⟨rfl, fun p hp => ?_, _, _, rfl⟩)
  · rintro ⟨p, i⟩ rest ρ w' h
    obtain ⟨rfl, hr, x2, x3, rfl⟩ := (hJ _ _ _).mp h
    obtain ⟨hm, hi⟩ := hr _ List.mem_cons_self
    have ni : ¬ ((i : Int) = 20) := by
      simp at hi
      omega
    simp [R_var, eqD_int, ni, is_dependence_eq hC (hd p hm)]
    exact (hJ _ _ _).mpr ⟨rfl, fun q hq => hr q (List.mem_cons_of_mem _ hq), _, _, rfl⟩
  · intro ρ w' h
    obtain ⟨rfl, _, x2, x3, rfl⟩ := (hJ _ _ _).mp h
    simp
  · obtain ⟨p, i⟩ := p
    obtain ⟨h1, h2, h3⟩ := List.mem_zipIdx hp
    refine ⟨?_, ?_⟩
    · rw [h3]
      exact List.getElem_mem _
    · show i < 20
      omega
theorem need_dependences_eq {cs : List Nat} {ds : List (List Nat × Nat)} {d : D} {w : W} (hC : Col cs) (hd : ∀ p ∈ ds, Dep cs p) (hl : ds.length ≤ 20) (h : d = .tup (ds.map depD) ∨ d = .lst (ds.map depD)) : D_need_dependences [S cs, d] w = some (.sh .non, w) :=
  need_dependences_eqD (by rcases h with rfl | rfl <;> simp [isiD, tyB, bt_list_tuple]) (by rcases h with rfl | rfl <;> rfl) hC hd hl
theorem is_columns_eq {cs : List Nat} {w : W} (hC : Col cs) : D_is_columns [S cs] w = some (.sh (.bl true), w) := by
  refine D_eq ?_
  have hc := hC.len
  have e1 := rises_eq (a := cs) (w := w) (by omega)
  have cp : CpOk cs := fun x hx => by
    have := hC.mem x hx
    simp at this
    omega
  simp [hC.upc] at e1
  have e2 := eqD_S cp (m := []) (fun x hx => nomatch hx)
  simp [d_is_columns, startE, R_var, isiD, tyB, bt_str, e1, e2, lit_e, hC.2, R_lcM, R_iter, iterD_S]
  refine ⟨⟨rfl, by omega⟩, R_lcMap (fun c => S [c]) (fun c => .bl true) cs (fun c hc' => ?_) ?_⟩
  · have := hC.mem c hc'
    simp at this
    simp [R_var, wipeE, lit_abcd, inS_S, this]
  · simp [R_liftN, peeks, peek, allD_map, outR]
theorem need_columns_eq {cs : List Nat} {w : W} (hC : Col cs) : D_need_columns [S cs] w = some (.sh .non, w) := by
  refine D_eq ?_
  simp [d_need_columns, startE, R_var, is_columns_eq hC]
abbrev schF (cs : List Nat) (dd : D) : List (Str × D) := [("own_columns", S cs), ("own_dependences", dd)]
abbrev schD (cs : List Nat) (dd : D) : D := .ins "Scheme" (schF cs dd)
abbrev schG (cs : List Nat) (ds : List (List Nat × Nat)) : List (Str × D) := schF cs (.tup (ds.map depD))
abbrev sch (cs : List Nat) (ds : List (List Nat × Nat)) : D := .ins "Scheme" (schG cs ds)
theorem Scheme_eqD {cs : List Nat} {ds : List (List Nat × Nat)} {d dd : D} {w : W} (e : tupD [d] = some (.sh dd)) (e1 : isiD bt_list_tuple ic_list_tuple d = some true) (e2 : seqD d = some (ds.map depD)) (hC : Col cs) (hd : ∀ p ∈ ds, Dep cs p) (hl : ds.length ≤ 20) : I_Scheme [S cs, d] w = some (schF cs dd, w) := by
  have : R (d_Scheme_init []) (none :: startE 2 [S cs, d]) w fun gs ρ' w' => gs = schF cs dd ∧ w' = w := by
    simp [d_Scheme_init, startE, R_var, need_columns_eq hC, need_dependences_eqD e1 e2 hC hd hl, R_liftN, peeks, peek, e, putD]
    decide +kernel
  obtain ⟨gs, ρ', w', e, rfl, rfl⟩ := this
  simp [I_Scheme, denI, e]
theorem Scheme_eq {cs : List Nat} {ds : List (List Nat × Nat)} {d : D} {w : W} (hC : Col cs) (hd : ∀ p ∈ ds, Dep cs p) (hl : ds.length ≤ 20) (h : d = .tup (ds.map depD) ∨ d = .lst (ds.map depD)) : I_Scheme [S cs, d] w = some (schG cs ds, w) :=
  Scheme_eqD (by rcases h with rfl | rfl <;> rfl) (by rcases h with rfl | rfl <;> simp [isiD, tyB, bt_list_tuple]) (by rcases h with rfl | rfl <;> rfl) hC hd hl
end KL

end sec_P5
section sec_SO
set_option maxRecDepth 100000
set_option maxHeartbeats 5000000
/-! SO: the orders of texts by length. -/
namespace FD
open PySem L2 PySem.W PyProof.Rows
local instance tl5 : Tabl := ⟨[]⟩
theorem blt_str (a b : List Nat) : itemLt (.inr a) (.inr b) = decide (a < b) := by
  show strKind.blt a b = _
  rfl
/-- by length, then by signs -/
theorem byLen_le (x y : Str) : dataLe false SK.kyLen x y = true ↔ x.length < y.length ∨ (x.length = y.length ∧ ¬ y.cps.toList < x.cps.toList) := by
  show (!PyProof.Rows.lexLt itemOrd (keyToks (SK.kyLen y)) (keyToks (SK.kyLen x))) = true ↔ _
  have e : ∀ z : Str, keyToks (SK.kyLen z) = [.inl 1, .inl (z.length : Int), .inl 1, .inr z.cps.toList, .inl 0] := fun z => by simp [SK.kyLen, keyToks, keyToksAll]
  rw [e, e, Bool.not_eq_true', lex_self, lex_cons]
  by_cases h1 : (y.length : Int) < x.length
  · have : ¬ x.length < y.length := by omega
    have : ¬ x.length = y.length := by omega
    simp [itemLt, h1]
    omega
  · by_cases h2 : (x.length : Int) < y.length
    · simp [itemLt, h1, h2]
      omega
    · have h3 : x.length = y.length := by omega
      have h4 : (itemOrd.blt (Sum.inl (y.length : Int)) (Sum.inl (x.length : Int))) = false := by simp [itemLt]; omega
      have h5 : (itemOrd.blt (Sum.inl (x.length : Int)) (Sum.inl (y.length : Int))) = false := by simp [itemLt]; omega
      rw [h4, h5, lex_self, lex_cons, lex_self]
      have : ∀ a b : List Nat, itemOrd.blt (Sum.inr a) (Sum.inr b) = decide (a < b) := blt_str
      rw [this, this]
      simp [h3, PyProof.Rows.lexLt]
theorem byLen1_le (x y : Str) : dataLe false (fun x : Str => PyData.int x.length) x y = true ↔ x.length ≤ y.length := by
  show (!PyProof.Rows.lexLt itemOrd (keyToks (.int y.length)) (keyToks (.int x.length))) = true ↔ _
  simp only [keyToks]
  rw [Bool.not_eq_true', lex_cons]
  have : ∀ a b : Int, itemOrd.blt (Sum.inl a) (Sum.inl b) = decide (a < b) := fun a b => rfl
  rw [this, this]
  simp [PyProof.Rows.lexLt]
theorem leS_le (x y : Str) : leS x y = true ↔ ¬ y.cps.toList < x.cps.toList := by
  unfold leS
  rw [lt_def]
  simp
theorem str_ext {x y : Str} (h : x.cps.toList = y.cps.toList) : x = y := by
  obtain ⟨a⟩ := x
  obtain ⟨b⟩ := y
  have : a = b := Array.toList_inj.mp h
  rw [this]
theorem pair_two {α : Type} [DecidableEq α] {l : List α} {a b : α} (nd : l.Nodup) (h1 : [a, b].Sublist l) (h2 : [b, a].Sublist l) : False := by
  induction l with
  | nil => cases h1
  | cons c l ih =>
    obtain ⟨n1, n2⟩ := List.nodup_cons.mp nd
    cases h1 with
    | cons _ h1 =>
      cases h2 with
      | cons _ h2 => exact ih n2 h1 h2
      | cons_cons _ h2 => exact n1 (h1.subset (by simp))
    | cons_cons _ h1 =>
      cases h2 with
      | cons _ h2 => exact n1 (h2.subset (by simp))
      | cons_cons _ h2 => exact n1 (h1.subset (by simp))
theorem pairwise_of_sub {α : Type} {R : α → α → Prop} : ∀ {l : List α}, (∀ a b, [a, b].Sublist l → R a b) → l.Pairwise R
  | [], _ => .nil
  | x :: l, h => List.pairwise_cons.mpr ⟨fun y hy => h x y (List.Sublist.cons_cons x (List.singleton_sublist.mpr hy)), pairwise_of_sub fun a b hab => h a b (hab.cons x)⟩
theorem sub_pairwise {α : Type} {R : α → α → Prop} {l : List α} (h : l.Pairwise R) {a b : α} (hs : [a, b].Sublist l) : R a b := by
  have := h.sublist hs
  simpa using this
theorem pair_or {α : Type} : ∀ {l : List α} {a b : α}, a ∈ l → b ∈ l → a ≠ b → [a, b].Sublist l ∨ [b, a].Sublist l
  | [], _, _, h, _, _ => nomatch h
  | x :: l, a, b, ha, hb, n => by
    rcases List.mem_cons.mp ha with rfl | ha
    · rcases List.mem_cons.mp hb with rfl | hb
      · exact absurd rfl n
      · exact .inl (List.Sublist.cons_cons _ (List.singleton_sublist.mpr hb))
    · rcases List.mem_cons.mp hb with e | hb
      · subst e
        exact .inr (List.Sublist.cons_cons _ (List.singleton_sublist.mpr (by assumption)))
      · rcases pair_or ha hb n with h | h
        · exact .inl (h.cons x)
        · exact .inr (h.cons x)
theorem total1 (a b : Str) : (dataLe false (fun x : Str => PyData.int x.length) a b || dataLe false (fun x : Str => PyData.int x.length) b a) = true := by
  rw [Bool.or_eq_true, byLen1_le, byLen1_le]
  omega
theorem trans1 (a b c : Str) (h1 : dataLe false (fun x : Str => PyData.int x.length) a b = true) (h2 : dataLe false (fun x : Str => PyData.int x.length) b c = true) : dataLe false (fun x : Str => PyData.int x.length) a c = true := by
  rw [byLen1_le] at *
  omega
theorem totalL (a b : Str) : (dataLe false SK.kyLen a b || dataLe false SK.kyLen b a) = true := by
  rw [Bool.or_eq_true, byLen_le, byLen_le]
  rcases Nat.lt_trichotomy a.length b.length with h | h | h
  · exact .inl (.inl h)
  · rcases List.le_total a.cps.toList b.cps.toList with z | z
    · exact .inl (.inr ⟨h, List.not_lt.mpr z⟩)
    · exact .inr (.inr ⟨h.symm, List.not_lt.mpr z⟩)
  · exact .inr (.inl h)
theorem transL (a b c : Str) (h1 : dataLe false SK.kyLen a b = true) (h2 : dataLe false SK.kyLen b c = true) : dataLe false SK.kyLen a c = true := by
  rw [byLen_le] at *
  rcases h1 with h1 | ⟨h1, k1⟩
  · rcases h2 with h2 | ⟨h2, k2⟩
    · exact .inl (by omega)
    · exact .inl (by omega)
  · rcases h2 with h2 | ⟨h2, k2⟩
    · exact .inl (by omega)
    · exact .inr ⟨by omega, List.not_lt.mpr (List.le_trans (List.not_lt.mp k1) (List.not_lt.mp k2))⟩
theorem antiL (a b : Str) (h1 : dataLe false SK.kyLen a b = true) (h2 : dataLe false SK.kyLen b a = true) : a = b := by
  rw [byLen_le] at *
  rcases h1 with h1 | ⟨h1, k1⟩
  · omega
  · rcases h2 with h2 | ⟨h2, k2⟩
    · omega
    · exact str_ext (List.le_antisymm (List.not_lt.mp k1) (List.not_lt.mp k2))
/-- sorted(sorted(xs), key=len) -/
theorem byLen1_sortS {xs : List Str} (nd : xs.Nodup) : SK.byLen1 (sortS xs) = SK.byLen xs := by
  have p1 : (sortS xs).Perm xs := List.mergeSort_perm _ _
  have p2 : (SK.byLen1 (sortS xs)).Perm (sortS xs) := List.mergeSort_perm _ _
  have p3 : (SK.byLen xs).Perm xs := List.mergeSort_perm _ _
  have nd2 : (SK.byLen1 (sortS xs)).Nodup := (p2.trans p1).symm.nodup nd
  have s1 : (sortS xs).Pairwise (fun a b => leS a b = true) := List.pairwise_mergeSort leS_trans leS_total xs
  have s2 : (SK.byLen1 (sortS xs)).Pairwise (fun a b => dataLe false (fun x : Str => PyData.int x.length) a b = true) := List.pairwise_mergeSort trans1 total1 _
  refine List.Perm.eq_of_pairwise (le := fun a b => dataLe false SK.kyLen a b = true) (fun a b _ _ => antiL a b) (pairwise_of_sub fun a b hab => ?_) (List.pairwise_mergeSort transL totalL xs) ((p2.trans p1).trans p3.symm)
  have hl := (byLen1_le a b).mp (sub_pairwise s2 hab)
  rw [byLen_le]
  rcases Nat.lt_or_eq_of_le hl with h | h
  · exact .inl h
  · refine .inr ⟨h, fun hlt => ?_⟩
    have nab : a ≠ b := fun e => by
      subst e
      exact List.lt_irrefl _ hlt
    have ma : a ∈ sortS xs := p2.subset (hab.subset (by simp))
    have mb : b ∈ sortS xs := p2.subset (hab.subset (by simp))
    rcases pair_or ma mb nab with q | q
    · exact (leS_le a b).mp (sub_pairwise s1 q) hlt
    · have q2 : [b, a].Sublist (SK.byLen1 (sortS xs)) := List.pair_sublist_mergeSort trans1 total1 ((byLen1_le b a).mpr (by omega)) q
      exact pair_two nd2 hab q2
end FD

end sec_SO
section sec_P6
set_option maxRecDepth 100000
set_option maxHeartbeats 5000000
/-! P6: all sets, closed sets, equal schemes. -/
namespace KL
open PySem L2 FD
open ST (Up up_eq setN mem_setN up_setN)
local instance tl6 : Tabl := ⟨[]⟩
def subsG (acc : List (List Nat)) (l : List Nat) : List (List Nat) := l.foldl (fun acc c => acc ++ acc.map (· ++ [c])) acc
def subsF (l : List Nat) : List (List Nat) := subsG [[]] l
theorem mem_subsG {x : List Nat} : ∀ {l : List Nat} {acc : List (List Nat)}, x ∈ subsG acc l ↔ ∃ a ∈ acc, ∃ s : List Nat, s.Sublist l ∧ x = a ++ s
  | [], acc => by
    constructor
    · intro h
      exact ⟨x, h, [], List.Sublist.slnil, by simp⟩
    · rintro ⟨a, h, s, hs, rfl⟩
      have : s = [] := by simpa using hs
      subst this
      simpa [subsG] using h
  | c :: l, acc => by
    show x ∈ subsG (acc ++ acc.map (· ++ [c])) l ↔ _
    rw [mem_subsG]
    constructor
    · rintro ⟨a, h, s, hs, rfl⟩
      rcases List.mem_append.mp h with h | h
      · exact ⟨a, h, s, hs.cons c, rfl⟩
      · obtain ⟨b, hb, rfl⟩ := List.mem_map.mp h
        exact ⟨b, hb, c :: s, hs.cons_cons c, by simp⟩
    · rintro ⟨a, h, s, hs, rfl⟩
      cases hs with
      | cons _ hs => exact ⟨a, List.mem_append_left _ h, s, hs, rfl⟩
      | @cons_cons s' _ _ hs => exact ⟨a ++ [c], List.mem_append_right _ (List.mem_map.mpr ⟨a, h, rfl⟩), s', hs, by simp⟩
theorem mem_subsF {x l : List Nat} : x ∈ subsF l ↔ x.Sublist l := by
  unfold subsF
  rw [mem_subsG]
  simp
theorem subs_len (l : List Nat) : ∀ acc : List (List Nat), (subsG acc l).length = acc.length * 2 ^ l.length := by
  induction l with
  | nil => intro acc; simp [subsG]
  | cons c l ih =>
    intro acc
    show (subsG (acc ++ acc.map (· ++ [c])) l).length = _
    rw [ih]
    simp only [List.length_append, List.length_map, List.length_cons, Nat.pow_succ]
    rw [← Nat.mul_two, Nat.mul_assoc, Nat.mul_comm 2]
theorem Col.in {cs : List Nat} (h : Col cs) : cs ∈ subsF [97, 98, 99, 100] := mem_subsF.mpr h.1
theorem subs_nodup {cs : List Nat} (h : Col cs) : (subsF (cs ++ [114])).Nodup := by
  have key : ∀ cs ∈ subsF [97, 98, 99, 100], (subsF (cs ++ [114])).Nodup := by decide +kernel
  exact key cs h.in
def sets (cs : List Nat) : List (List Nat) := (SK.byLen ((subsF (cs ++ [114])).map st)).map (·.cps.toList)
theorem sets_perm (cs : List Nat) : (sets cs).Perm (subsF (cs ++ [114])) := by
  have p : (SK.byLen ((subsF (cs ++ [114])).map st)).Perm ((subsF (cs ++ [114])).map st) := List.mergeSort_perm _ _
  have q := p.map (·.cps.toList)
  rw [List.map_map] at q
  have e : ((fun x : Str => x.cps.toList) ∘ st) = id := rfl
  rw [e, List.map_id] at q
  exact q
theorem mem_sets {cs x : List Nat} : x ∈ sets cs ↔ Set_ cs x := by
  rw [(sets_perm cs).mem_iff, mem_subsF]
  rfl
theorem sets_nodup {cs : List Nat} (h : Col cs) : (sets cs).Nodup := (sets_perm cs).symm.nodup (subs_nodup h)
theorem sets_len {cs : List Nat} (h : Col cs) : (sets cs).length ≤ 32 := by
  rw [(sets_perm cs).length_eq]
  unfold subsF
  rw [subs_len]
  have := h.len
  have : 2 ^ (cs ++ [114]).length ≤ 2 ^ 5 := Nat.pow_le_pow_right (by decide) (by simp; omega)
  simpa using this
theorem map_S_cps (xs : List Str) : (xs.map (·.cps.toList)).map S = xs.map D.str := by
  rw [List.map_map]
  apply List.map_congr_left
  intro x _
  show D.str (st x.cps.toList) = D.str x
  congr 1
theorem textsD_S (xs : List (List Nat)) : textsD (.lst (xs.map S)) = some (xs.map st) := asStrs_S xs
theorem sets_of_eq {cs : List Nat} {w : W} (hC : Col cs) : D_sets_of [S cs] w = some (.fr (.lst ((sets cs).map S)), w) := by
  refine D_eq ?_
  have hc := hC.len
  simp [d_sets_of, startE, R_var, lit_e, lit_r, addD_S (show cs.length + [114].length ≤ 1000000 by simp; omega), R_iter, iterD_S, -List.map_append]
  obtain ⟨J, hJ⟩ : ∃ J : List Nat → FD.Env → W → Prop, ∀ rest ρ w', J rest ρ w' ↔ (w' = w ∧ ∃ acc x2, ρ = [some (.val (S cs)), some (.own (.lst (acc.map S))), x2, none] ∧ subsG acc rest = subsF (cs ++ [114]) ∧ acc.length * 2 ^ rest.length ≤ 32 ∧ rest.length ≤ 5 ∧ ∀ x ∈ acc, x.length + rest.length ≤ 5) := ⟨_, fun _ _ _ => Iff.rfl⟩
  refine R_forLm (fun c => S [c]) J ?_ ?_ (cs ++ [114]) _ _ ((hJ _ _ _).mpr ⟨rfl, [[]], _, rfl, rfl, ?_, by simp; omega, by simp; omega⟩)
  · intro c rest ρ w' h
    obtain ⟨rfl, acc, x2, rfl, h1, h2, h3, h4⟩ := (hJ _ _ _).mp h
    have h5 : acc.length ≤ 32 := Nat.le_trans (Nat.le_mul_of_pos_right _ (Nat.two_pow_pos _)) h2
    simp [R_own, R_lcM, R_escow, iterD]
    refine ⟨⟨rfl, by omega⟩, R_lcMap S (fun x => S (x ++ [c])) acc (fun x hx => ?_) ?_⟩
    · have := h4 x hx
      simp only [List.length_cons] at this
      simp [R_var, wipeE, addD_S (show x.length + [c].length ≤ 1000000 by simp; omega)]
    · have e : (acc.map S ++ acc.map fun x => S (x ++ [c])) = (acc ++ acc.map (· ++ [c])).map S := by simp
      have e2 : addD (.lst (acc.map S)) (.lst (acc.map fun x => S (x ++ [c]))) = some (.fr (.lst ((acc ++ acc.map (· ++ [c])).map S))) := by
        rw [← e]
        simp [addD]
        omega
      simp [R_lift2g, peek, slotD, restE, wipeE, e2, -List.map_append]
      refine (hJ _ _ _).mpr ⟨rfl, acc ++ acc.map (· ++ [c]), _, rfl, h1, ?_, ?_, ?_⟩
      · simp only [List.length_append, List.length_map]
        rw [List.length_cons, Nat.pow_succ] at h2
        rw [← Nat.mul_two, Nat.mul_assoc, Nat.mul_comm 2]
        exact h2
      · simp only [List.length_cons] at h3
        omega
      · intro x hx
        rcases List.mem_append.mp hx with hx | hx
        · have := h4 x hx
          simp only [List.length_cons] at this
          omega
        · obtain ⟨y, hy, rfl⟩ := List.mem_map.mp hx
          have := h4 y hy
          simp only [List.length_cons] at this
          simp
          omega
  · intro ρ w' h
    obtain ⟨rfl, acc, x2, rfl, h1, h2, h3, h4⟩ := (hJ _ _ _).mp h
    have e : acc = subsF (cs ++ [114]) := h1
    subst e
    simp [R_own, R_lift1g, peek, slotD, textsD_S]
    refine ⟨_, ⟨fun a ha => ?_, rfl⟩, by simp [outR, sets, map_S_cps]⟩
    have := h4 a ha
    simp at this
    rw [st_len]
    omega
  · have : 2 ^ (cs ++ [114]).length ≤ 2 ^ 5 := Nat.pow_le_pow_right (by decide) (by simp; omega)
    simpa using this
theorem Scheme_closure_eqD {cs : List Nat} {ds : List (List Nat × Nat)} {dd : D} (it : iterD dd = some (ds.map depD)) {l : List Nat} {w : W} (hC : Col cs) (hd : ∀ p ∈ ds, Dep cs p) (hl : Set_ cs l) : D_Scheme_closure [schD cs dd, S l] w = some (.sh (S (cl cs ds l)), w) := by
  refine D_eq ?_
  have hc := hC.len
  have h1 := hl.len hC
  have e1 : fldD "Scheme" "own_columns" (schD cs dd) = some (.sh (S cs)) := by simp [fldD]
  have e2 : fldD "Scheme" "own_dependences" (schD cs dd) = some (.sh dd) := by
    have n1 : (("own_dependences" : Str) == ("own_columns" : Str)) = false := by decide +kernel
    simp [fldD, List.lookup_cons, n1]
  simp [d_Scheme_closure, startE, R_var, e1, e2, need_set_eq (cs := cs) (a := l) (by omega) (by omega) (hl.up hC) (fun c hc => hl.subset hc), closure_of_eqD it hC hd hl, outR]
theorem Scheme_closure_eq {cs : List Nat} {ds : List (List Nat × Nat)} {l : List Nat} {w : W} (hC : Col cs) (hd : ∀ p ∈ ds, Dep cs p) (hl : Set_ cs l) : D_Scheme_closure [sch cs ds, S l] w = some (.sh (S (cl cs ds l)), w) := Scheme_closure_eqD rfl hC hd hl
theorem Set_.cp {cs l : List Nat} (hC : Col cs) (h : Set_ cs l) : CpOk l := fun x hx => by
  have := hC.sub.subset (h.subset hx)
  simp [U] at this
  omega
noncomputable def closed (cs : List Nat) (ds : List (List Nat × Nat)) : List (List Nat) := (sets cs).filter fun l => decide (cl cs ds l = l)
theorem closed_sets_eqD {cs : List Nat} {ds : List (List Nat × Nat)} {dd : D} (it : iterD dd = some (ds.map depD)) {w : W} (hC : Col cs) (hd : ∀ p ∈ ds, Dep cs p) : D_Scheme_closed_sets [schD cs dd] w = some (.fr (.lst ((closed cs ds).map S)), w) := by
  refine D_eq ?_
  have e1 : fldD "Scheme" "own_columns" (schD cs dd) = some (.sh (S cs)) := by simp [fldD]
  simp [d_Scheme_closed_sets, startE, R_var, e1, sets_of_eq hC, R_lcM, iterD]
  refine ⟨⟨rfl, by have := sets_len hC; omega⟩, R_lcFil S (fun l => decide (cl cs ds l = l)) S (sets cs) (fun l hl => ?_) ?_⟩
  · have hs := mem_sets.mp hl
    have e2 : List.lookup ("closure" : Str) (schF cs dd) = none := by
      have n1 : (("closure" : Str) == ("own_columns" : Str)) = false := by decide +kernel
      have n2 : (("closure" : Str) == ("own_dependences" : Str)) = false := by decide +kernel
      simp [List.lookup_cons, n1, n2]
    have c1 := eqD_S (l := cl cs ds l) (m := l) (cl_set.cp hC) (hs.cp hC)
    have c2 := eqD_S (l := l) (m := l) (hs.cp hC) (hs.cp hC)
    by_cases h : cl cs ds l = l
    · simp [R_var, wipeE, R_self, e2, Scheme_closure_eqD it hC hd hs, c2, h]
    · simp [R_var, wipeE, R_self, e2, Scheme_closure_eqD it hC hd hs, c1, h]
  · simp [outR, closed]
theorem closed_sets_eq {cs : List Nat} {ds : List (List Nat × Nat)} {w : W} (hC : Col cs) (hd : ∀ p ∈ ds, Dep cs p) : D_Scheme_closed_sets [sch cs ds] w = some (.fr (.lst ((closed cs ds).map S)), w) := closed_sets_eqD rfl hC hd
end KL

end sec_P6
section sec_EQ
set_option maxRecDepth 100000
set_option maxHeartbeats 5000000
/-! EQ: == of data without truth values is equality. -/
namespace FD
open PySem L2
local instance tl7 : Tabl := ⟨[]⟩
/-- data without truth values, at most so deep -/
def NB : Nat → D → Prop
  | _, .non => True
  | _, .int _ => True
  | _, .str x => ∀ c ∈ x.cps.toList, c < 0x110000
  | n + 1, .tup ds => ∀ d ∈ ds, NB n d
  | n + 1, .lst ds => ∀ d ∈ ds, NB n d
  | _, _ => False
theorem NB.up : ∀ {n : Nat} {d : D}, NB n d → NB (n + 1) d
  | 0, .non, _ => by simp [NB]
  | 0, .int _, _ => by simp [NB]
  | 0, .str _, h => by simpa [NB] using h
  | 0, .tup _, h => by simp [NB] at h
  | 0, .lst _, h => by simp [NB] at h
  | n + 1, .non, _ => by simp [NB]
  | n + 1, .int _, _ => by simp [NB]
  | n + 1, .str _, h => by simpa [NB] using h
  | n + 1, .tup ds, h => by
    have h : ∀ d ∈ ds, NB n d := h
    show ∀ d ∈ ds, NB (n + 1) d
    exact fun d hd => (h d hd).up
  | n + 1, .lst ds, h => by
    have h : ∀ d ∈ ds, NB n d := h
    show ∀ d ∈ ds, NB (n + 1) d
    exact fun d hd => (h d hd).up
theorem NB.mono {n m : Nat} {d : D} (h : NB n d) (hm : n ≤ m) : NB m d := by
  induction hm with
  | refl => exact h
  | step _ ih => exact ih.up
theorem toPys_of {n : Nat} {ds : List D} (h : ∀ d ∈ ds, ∃ p, toPy d = some p ∧ p.canLay0 = true ∧ p.depth ≤ n) : ∃ ps, toPys ds = some ps ∧ PyData.canLayAll0 ps = true ∧ PyData.depthAll ps ≤ n := by
  induction ds with
  | nil => exact ⟨[], by simp [toPys], by simp [PyData.canLayAll0], by simp [PyData.depthAll]⟩
  | cons d ds ih =>
    obtain ⟨ps, e1, e2, e3⟩ := ih fun d hd => h d (List.mem_cons_of_mem _ hd)
    obtain ⟨p, f1, f2, f3⟩ := h d List.mem_cons_self
    refine ⟨p :: ps, by simp [toPys, f1, e1], by simp [PyData.canLayAll0, f2, e2], ?_⟩
    simp only [PyData.depthAll]
    omega
theorem NB.py : ∀ {n : Nat} {d : D}, NB n d → ∃ p, toPy d = some p ∧ p.canLay0 = true ∧ p.depth ≤ n
  | n, .non, _ => ⟨.none, by simp [toPy], by simp [PyData.canLay0], by simp [PyData.depth]⟩
  | n, .int i, _ => ⟨.int i, by simp [toPy], by simp [PyData.canLay0], by simp [PyData.depth]⟩
  | n, .str x, h => ⟨.str x, by simp [toPy], by
      have h : ∀ c ∈ x.cps.toList, c < 0x110000 := by cases n <;> exact h
      simp only [PyData.canLay0, PyData.strOk, Array.all_eq_true', decide_eq_true_eq]
      intro c hc
      exact h c (by simpa using hc), by simp [PyData.depth]⟩
  | n + 1, .tup ds, h => by
    have h : ∀ d ∈ ds, NB n d := h
    obtain ⟨ps, e1, e2, e3⟩ := toPys_of (n := n) fun d hd => (h d hd).py
    exact ⟨.tuple ps, by simp [toPy, e1], by simpa [PyData.canLay0] using e2, by simp [PyData.depth]; omega⟩
  | n + 1, .lst ds, h => by
    have h : ∀ d ∈ ds, NB n d := h
    obtain ⟨ps, e1, e2, e3⟩ := toPys_of (n := n) fun d hd => (h d hd).py
    exact ⟨.list ps, by simp [toPy, e1], by simpa [PyData.canLay0] using e2, by simp [PyData.depth]; omega⟩
  | 0, .tup ds, h => by simp [NB] at h
  | 0, .lst ds, h => by simp [NB] at h
  | 0, .bl _, h => by simp [NB] at h
  | 0, .ty _, h => by simp [NB] at h
  | 0, .draw, h => by simp [NB] at h
  | 0, .dic _, h => by simp [NB] at h
  | 0, .ktup _, h => by simp [NB] at h
  | 0, .dit _, h => by simp [NB] at h
  | 0, .fdit _, h => by simp [NB] at h
  | 0, .ins _ _, h => by simp [NB] at h
  | 0, .scr _, h => by simp [NB] at h
  | _ + 1, .bl _, h => by simp [NB] at h
  | _ + 1, .ty _, h => by simp [NB] at h
  | _ + 1, .draw, h => by simp [NB] at h
  | _ + 1, .dic _, h => by simp [NB] at h
  | _ + 1, .ktup _, h => by simp [NB] at h
  | _ + 1, .dit _, h => by simp [NB] at h
  | _ + 1, .fdit _, h => by simp [NB] at h
  | _ + 1, .ins _ _, h => by simp [NB] at h
  | _ + 1, .scr _, h => by simp [NB] at h
theorem eqvAll_iff : ∀ {as bs : List D} {ps qs : List PyData}, (∀ a ∈ as, ∀ b ∈ bs, ∀ p q, toPy a = some p → toPy b = some q → (PyData.eqv p q = true ↔ a = b)) → toPys as = some ps → toPys bs = some qs → (PyData.eqvAll ps qs = true ↔ as = bs)
  | [], [], ps, qs, _, e1, e2 => by
    simp [toPys] at e1 e2
    subst e1
    subst e2
    simp [PyData.eqvAll]
  | [], b :: bs, ps, qs, _, e1, e2 => by
    simp only [toPys] at e1 e2
    cases e1
    split at e2
    · cases q : toPys bs with
      | none => rw [q] at e2; cases e2
      | some _ => rw [q] at e2; cases e2; simp [PyData.eqvAll]
    · cases e2
  | a :: as, [], ps, qs, _, e1, e2 => by
    simp only [toPys] at e1 e2
    cases e2
    split at e1
    · cases q : toPys as with
      | none => rw [q] at e1; cases e1
      | some _ => rw [q] at e1; cases e1; simp [PyData.eqvAll]
    · cases e1
  | a :: as, b :: bs, ps, qs, h, e1, e2 => by
    simp only [toPys] at e1 e2
    split at e1
    · rename_i p hp
      cases q1 : toPys as with
      | none => rw [q1] at e1; cases e1
      | some ps' =>
        rw [q1] at e1
        cases e1
        split at e2
        · rename_i q hq
          cases q2 : toPys bs with
          | none => rw [q2] at e2; cases e2
          | some qs' =>
            rw [q2] at e2
            cases e2
            have i1 := h a List.mem_cons_self b List.mem_cons_self p q hp hq
            have i2 := eqvAll_iff (fun a ha b hb => h a (List.mem_cons_of_mem _ ha) b (List.mem_cons_of_mem _ hb)) q1 q2
            simp only [PyData.eqvAll, Bool.and_eq_true, i1, i2, List.cons.injEq]
        · cases e2
    · cases e1
theorem NB.eqv : ∀ {n : Nat} {a b : D} {p q : PyData}, NB n a → NB n b → toPy a = some p → toPy b = some q → (PyData.eqv p q = true ↔ a = b) := by
  intro n
  induction n with
  | zero =>
    intro a b p q ha hb e1 e2
    cases a <;> simp [NB] at ha <;> cases b <;> simp [NB] at hb <;> simp [toPy] at e1 e2 <;> subst e1 <;> subst e2 <;> simp [PyData.eqv]
  | succ n ih =>
    intro a b p q ha hb e1 e2
    have seq : ∀ (as bs : List D) (ps qs : List PyData), (∀ d ∈ as, NB n d) → (∀ d ∈ bs, NB n d) → toPys as = some ps → toPys bs = some qs → (PyData.eqvAll ps qs = true ↔ as = bs) := fun as bs ps qs ha hb e1 e2 => eqvAll_iff (fun x hx y hy p q ep eq => ih (ha x hx) (hb y hy) ep eq) e1 e2
    cases a with
    | tup as =>
      have ha : ∀ d ∈ as, NB n d := ha
      simp only [toPy] at e1
      cases q1 : toPys as with
      | none => rw [q1] at e1; cases e1
      | some ps =>
        rw [q1] at e1
        cases e1
        cases b with
        | tup bs =>
          have hb : ∀ d ∈ bs, NB n d := hb
          simp only [toPy] at e2
          cases q2 : toPys bs with
          | none => rw [q2] at e2; cases e2
          | some qs =>
            rw [q2] at e2
            cases e2
            simp [PyData.eqv, seq as bs ps qs ha hb q1 q2]
        | lst bs =>
          simp only [toPy] at e2
          cases q2 : toPys bs with
          | none => rw [q2] at e2; cases e2
          | some qs => rw [q2] at e2; cases e2; simp [PyData.eqv]
        | _ => simp [NB] at hb <;> simp [toPy] at e2 <;> subst e2 <;> simp [PyData.eqv]
    | lst as =>
      have ha : ∀ d ∈ as, NB n d := ha
      simp only [toPy] at e1
      cases q1 : toPys as with
      | none => rw [q1] at e1; cases e1
      | some ps =>
        rw [q1] at e1
        cases e1
        cases b with
        | lst bs =>
          have hb : ∀ d ∈ bs, NB n d := hb
          simp only [toPy] at e2
          cases q2 : toPys bs with
          | none => rw [q2] at e2; cases e2
          | some qs =>
            rw [q2] at e2
            cases e2
            simp [PyData.eqv, seq as bs ps qs ha hb q1 q2]
        | tup bs =>
          simp only [toPy] at e2
          cases q2 : toPys bs with
          | none => rw [q2] at e2; cases e2
          | some qs => rw [q2] at e2; cases e2; simp [PyData.eqv]
        | _ => simp [NB] at hb <;> simp [toPy] at e2 <;> subst e2 <;> simp [PyData.eqv]
    | _ =>
      simp [NB] at ha <;> simp [toPy] at e1 <;> subst e1 <;> cases b with
      | tup bs =>
        simp only [toPy] at e2
        cases q2 : toPys bs with
        | none => rw [q2] at e2; cases e2
        | some qs => rw [q2] at e2; cases e2; simp [PyData.eqv]
      | lst bs =>
        simp only [toPy] at e2
        cases q2 : toPys bs with
        | none => rw [q2] at e2; cases e2
        | some qs => rw [q2] at e2; cases e2; simp [PyData.eqv]
      | _ => simp [NB] at hb <;> simp [toPy] at e2 <;> subst e2 <;> simp [PyData.eqv]
open Classical in
theorem cmp_NB {a b : D} (ha : NB 64 a) (hb : NB 64 b) : cmpD a b = some (decide (a = b)) := by
  obtain ⟨p, p1, p2, p3⟩ := ha.py
  obtain ⟨q, q1, q2, q3⟩ := hb.py
  have hp : SeqAt.shaped p = true := by simp [SeqAt.shaped, p2, p3]
  have hq : SeqAt.shaped q = true := by simp [SeqAt.shaped, q2, q3]
  unfold cmpD
  simp only [p1, q1, hp, hq, and_self, if_true]
  congr 1
  rw [Bool.eq_iff_iff, ha.eqv hb p1 q1]
  simp
open Classical in
theorem eqD_NB {a b : D} (ha : NB 64 a) (hb : NB 64 b) : eqD a b = some (.sh (.bl (decide (a = b)))) := by
  simp [eqD, cmp_NB ha hb]
open Classical in
theorem neD_NB {a b : D} (ha : NB 64 a) (hb : NB 64 b) : neD a b = some (.sh (.bl (!decide (a = b)))) := by
  simp [neD, cmp_NB ha hb]
theorem NB_S {n : Nat} {l : List Nat} (h : CpOk l) : NB n (S l) := by
  cases n <;> exact h
theorem NB_int {n : Nat} {i : Int} : NB n (.int i) := by cases n <;> trivial
theorem NB_non {n : Nat} : NB n .non := by cases n <;> trivial
theorem S_inj {l m : List Nat} : S l = S m ↔ l = m := by
  constructor
  · intro h
    injection h with h
    exact st_inj.mp h
  · intro h; rw [h]
theorem mapS_inj {xs ys : List (List Nat)} : xs.map S = ys.map S ↔ xs = ys := by
  constructor
  · intro h
    exact List.map_inj_right (f := S) (fun a b e => S_inj.mp e) |>.mp h
  · intro h; rw [h]
theorem eqD_Ss {xs ys : List (List Nat)} (hx : ∀ x ∈ xs, CpOk x) (hy : ∀ x ∈ ys, CpOk x) : eqD (.lst (xs.map S)) (.lst (ys.map S)) = some (.sh (.bl (decide (xs = ys)))) := by
  have n1 : ∀ zs : List (List Nat), (∀ x ∈ zs, CpOk x) → NB 64 (.lst (zs.map S)) := fun zs hz d hd => by
    obtain ⟨z, h1, rfl⟩ := List.mem_map.mp hd
    exact NB_S (hz z h1)
  rw [eqD_NB (n1 xs hx) (n1 ys hy)]
  congr 3
  rw [decide_eq_decide]
  constructor
  · intro h
    injection h with h
    exact mapS_inj.mp h
  · intro h; rw [h]
end FD

end sec_EQ
section sec_P7
set_option maxRecDepth 100000
set_option maxHeartbeats 5000000
/-! P7: equal schemes. -/
namespace KL
open PySem L2 FD
open ST (Up up_eq setN mem_setN up_setN)
local instance tl8 : Tabl := ⟨[]⟩
theorem fld_c {cs : List Nat} {dd : D} : fldD "Scheme" "own_columns" (schD cs dd) = some (.sh (S cs)) := by simp [fldD]
theorem fld_d {cs : List Nat} {ds : List (List Nat × Nat)} : fldD "Scheme" "own_dependences" (sch cs ds) = some (.sh (.tup (ds.map depD))) := by
  have n1 : (("own_dependences" : Str) == ("own_columns" : Str)) = false := by decide +kernel
  simp [fldD, List.lookup_cons, n1]
theorem Col.cp {cs : List Nat} (hC : Col cs) : CpOk cs := fun x hx => by
  have := hC.mem x hx
  simp at this
  omega
theorem closed_cp {cs : List Nat} {ds : List (List Nat × Nat)} (hC : Col cs) : ∀ x ∈ closed cs ds, CpOk x := fun x hx => (mem_sets.mp (List.mem_filter.mp hx).1).cp hC
theorem no_m {cs : List Nat} {dd : D} : List.lookup ("closed_sets" : Str) (schF cs dd) = none := by
  have n1 : (("closed_sets" : Str) == ("own_columns" : Str)) = false := by decide +kernel
  have n2 : (("closed_sets" : Str) == ("own_dependences" : Str)) = false := by decide +kernel
  simp [List.lookup_cons, n1, n2]
/-- the schemes are equal -/
def EqS (cs : List Nat) (ds : List (List Nat × Nat)) (cs' : List Nat) (ds' : List (List Nat × Nat)) : Prop := cs = cs' ∧ closed cs ds = closed cs' ds'
open Classical in
theorem Scheme_eqSD {cs cs' : List Nat} {ds ds' : List (List Nat × Nat)} {dd dd' : D} (it : iterD dd = some (ds.map depD)) (it' : iterD dd' = some (ds'.map depD)) {w : W} (hC : Col cs) (hd : ∀ p ∈ ds, Dep cs p) (hC' : Col cs') (hd' : ∀ p ∈ ds', Dep cs' p) : D_Scheme_eq [schD cs dd, schD cs' dd'] w = some (.sh (.bl (decide (EqS cs ds cs' ds'))), w) := by
  refine D_eq ?_
  have e0 : isiD bt_Scheme ic_Scheme (schD cs' dd') = some true := by
    simp [isiD, ic_Scheme]
    try decide +kernel
  have e1 := neD_S hC.cp hC'.cp
  by_cases h : cs = cs'
  · subst h
    have e1 := neD_S hC.cp hC.cp
    simp [d_Scheme_eq, startE, R_var, e0, fld_c, e1, R_self, no_m, closed_sets_eqD it hC hd, closed_sets_eqD it' hC' hd', R_lift2g, peek, eqD_Ss (closed_cp hC) (closed_cp hC), outR, EqS]
  · simp [d_Scheme_eq, startE, R_var, e0, fld_c, e1, h, outR, EqS]
open Classical in
theorem Scheme_eqS {cs cs' : List Nat} {ds ds' : List (List Nat × Nat)} {w : W} (hC : Col cs) (hd : ∀ p ∈ ds, Dep cs p) (hC' : Col cs') (hd' : ∀ p ∈ ds', Dep cs' p) : D_Scheme_eq [sch cs ds, sch cs' ds'] w = some (.sh (.bl (decide (EqS cs ds cs' ds'))), w) := Scheme_eqSD rfl rfl hC hd hC' hd'
theorem Scheme_eqO {cs : List Nat} {ds : List (List Nat × Nat)} {d : D} {w : W} (h : isiD bt_Scheme ic_Scheme d = some false) : D_Scheme_eq [sch cs ds, d] w = some (.sh (.bl false), w) := by
  refine D_eq ?_
  simp [d_Scheme_eq, startE, R_var, h, outR]
theorem eqD_nil {l : List (List Nat)} (h : ∀ x ∈ l, CpOk x) : eqD (.lst (l.map S)) (.lst []) = some (.sh (.bl (decide (l = [])))) := eqD_Ss (ys := []) h fun x hx => nomatch hx
abbrev planD (cs : List Nat) (ds : List (List Nat × Nat)) : D := .tup [S cs, .tup (ds.map depD)]
end KL

end sec_P7
section sec_EV5
set_option maxRecDepth 100000
set_option maxHeartbeats 5000000
/-! EV5: rules for dicts, zip, properties, alternatives, two-clause comprehensions. -/
namespace FD
open PySem L2
local instance tl5e : Tabl := ⟨[]⟩
/-! association lists with keys that are lists of numbers -/
section
variable {α : Type}
def lookL (es : List (List Int × α)) (k : List Int) : Option α := (es.find? fun p => decide (p.1 = k)).map (·.2)
def putL (es : List (List Int × α)) (k : List Int) (v : α) : List (List Int × α) := if (es.any fun p => decide (p.1 = k)) = true then es.map (fun p => if p.1 = k then (p.1, v) else p) else es ++ [(k, v)]
abbrev nD (k : List Int) : D := .tup (k.map D.int)
def dE (emb : α → D) (p : List Int × α) : D × D := (nD p.1, emb p.2)
theorem keyT_n (k : List Int) : keyT (nD k) = some (k.map Sum.inl) := by
  have := asKeys_kD (k.map Sum.inl)
  rw [List.map_map] at this
  exact this
theorem inl_inj {k l : List Int} : (k.map (Sum.inl (β := Str)) = l.map Sum.inl) ↔ k = l := by
  constructor
  · intro h
    exact (List.map_inj_right fun a b e => by cases e; rfl).mp h
  · intro h; rw [h]
theorem key_eq (k l : List Int) : decide (keyT (nD k) = some (l.map Sum.inl)) = decide (k = l) := by
  rw [keyT_n, decide_eq_decide]
  constructor
  · intro h
    exact inl_inj.mp (Option.some.inj h)
  · intro h; rw [h]
theorem valT_n (emb : α → D) (es : List (List Int × α)) (k : List Int) : valT (es.map (dE emb)) (k.map Sum.inl) = (lookL es k).map emb := by
  unfold valT lookL
  rw [List.find?_map]
  have e : ((fun p : D × D => decide (keyT p.1 = some (k.map Sum.inl))) ∘ dE emb) = fun p : List Int × α => decide (p.1 = k) := by
    funext p
    exact key_eq p.1 k
  rw [e]
  cases es.find? fun p => decide (p.1 = k) <;> rfl
theorem putT_n (emb : α → D) (es : List (List Int × α)) (k : List Int) (v : α) : putT (es.map (dE emb)) (k.map Sum.inl) (emb v) = (putL es k v).map (dE emb) := by
  unfold putT putL
  rw [List.any_map]
  have e : ((fun p : D × D => decide (keyT p.1 = some (k.map Sum.inl))) ∘ dE emb) = fun p : List Int × α => decide (p.1 = k) := by
    funext p
    exact key_eq p.1 k
  rw [e]
  split
  · rw [List.map_map, List.map_map]
    apply List.map_congr_left
    intro p _
    show (if keyT (nD p.1) = some (k.map Sum.inl) then ((nD p.1, emb v) : D × D) else dE emb p) = dE emb (if p.1 = k then (p.1, v) else p)
    have q := key_eq p.1 k
    rw [decide_eq_decide] at q
    by_cases h : p.1 = k
    · rw [if_pos h, if_pos (q.mpr h)]
      rfl
    · rw [if_neg h, if_neg fun z => h (q.mp z)]
  · rw [List.map_append]
    congr 1
    show [((.tup ((k.map Sum.inl).map kD), emb v) : D × D)] = [dE emb (k, v)]
    rw [List.map_map]
    rfl
end
section
variable {α β : Type} {ρ : Env} {w : W} {d d1 d2 : D} {i : Nat} {fa fb fk fv fe fo : M RV}
theorem R_alt1 {f g : M α} {Q : α → Env → W → Prop} (h : R f ρ w Q) : R (alt f g) ρ w Q := by
  obtain ⟨a, ρ', w', e, q⟩ := h
  exact ⟨a, ρ', w', by simp [alt, e], q⟩
theorem R_alt2 {f g : M α} {Q : α → Env → W → Prop} (n : f ρ w = none) (h : R g ρ w Q) : R (alt f g) ρ w Q := by
  obtain ⟨a, ρ', w', e, q⟩ := h
  exact ⟨a, ρ', w', by simp [alt, n, e], q⟩
theorem opt_iff {β : Type} {o : Option β} {f : β → Option (α × Env × W)} {Q : α → Env → W → Prop} : (∃ a ρ' w', (match o with | some x => f x | none => none) = some (a, ρ', w') ∧ Q a ρ' w') ↔ ∃ x, o = some x ∧ ∃ a ρ' w', f x = some (a, ρ', w') ∧ Q a ρ' w' := by
  cases o <;> simp
@[simp] theorem R_dictM {Q : RV → Env → W → Prop} : R (dictM fo) ρ w Q ↔ R fo ρ w fun r ρ1 w1 => ∃ d, peek ρ1 r = some d ∧ ∃ ps, pairsD d = some ps ∧ Q r ρ1 w1 := by
  unfold dictM
  rw [R_bind]
  constructor <;> intro h <;> refine h.mono fun r ρ1 w1 h => ?_
  · obtain ⟨a, ρ3, w3, e, q⟩ := h
    dsimp only at e
    cases e1 : peek ρ1 r with
    | none => rw [e1] at e; cases e
    | some d =>
      rw [e1] at e
      dsimp only at e
      cases e2 : pairsD d with
      | none => rw [e2] at e; cases e
      | some ps =>
        rw [e2] at e
        cases e
        exact ⟨d, rfl, ps, e2, q⟩
  · obtain ⟨d, e1, ps, e2, q⟩ := h
    exact ⟨_, _, _, by simp [e1, e2], q⟩
@[simp] theorem R_dgetM {Q : RV → Env → W → Prop} : R (dgetM fo fk fe) ρ w Q ↔ R fo ρ w fun r1 ρ1 w1 => R fk ρ1 w1 fun r2 ρ2 w2 => R fe ρ2 w2 fun r3 ρ3 w3 => R (escR r3) ρ3 w3 fun z ρ4 w4 => R (lift2 (fun d k => match pairsD d with
  | some ps => (match keyT k with | some ks => some (.sh ((valT ps ks).getD z)) | none => none)
  | none => none) r1 r2) ρ4 w4 Q := by
  unfold dgetM
  first
  | (simp only [R_bind]; done)
  | (simp only [R_bind]; exact Iff.rfl)
theorem R_dput {Q : Fl → Env → W → Prop} (h : R fv ρ w fun r1 ρ1 w1 => R (escR r1) ρ1 w1 fun d ρ2 w2 => (∃ ps0, ownT ρ2 i = some ps0) ∧ R fk ρ2 w2 fun r2 ρ3 w3 => ∃ ps kd ks, ownT ρ3 i = some ps ∧ peek ρ3 r2 = some kd ∧ keyT kd = some ks ∧ ps.length < 1000000 ∧ Q .nx (ρ3.set i (some (.own (.dit (putT ps ks d))))) w3) : R (dputM i fv fk) ρ w Q := by
  obtain ⟨r1, ρ1, w1, e1, d, ρ2, w2, e2, ⟨ps0, e3⟩, r2, ρ3, w3, e4, ps, kd, ks, e5, e6, e7, hl, q⟩ := h
  refine ⟨_, _, _, ?_, q⟩
  unfold dputM
  simp [bindM, e1, e2, e3, e4, e5, e6, e7, hl]
theorem R_lput {Q : Fl → Env → W → Prop} (h : R fv ρ w fun r1 ρ1 w1 => R (escR r1) ρ1 w1 fun d ρ2 w2 => (∃ ds0, ownL ρ2 i = some ds0) ∧ R fk ρ2 w2 fun r2 ρ3 w3 => ∃ (ds : List D) (n : Nat), ownL ρ3 i = some ds ∧ peek ρ3 r2 = some (.int n) ∧ n < ds.length ∧ Q .nx (ρ3.set i (some (.own (.lst (ds.set n d))))) w3) : R (lputM i fv fk) ρ w Q := by
  obtain ⟨r1, ρ1, w1, e1, d, ρ2, w2, e2, ⟨ps0, e3⟩, r2, ρ3, w3, e4, ds, n, e5, e6, hl, q⟩ := h
  refine ⟨_, _, _, ?_, q⟩
  unfold lputM
  simp [bindM, e1, e2, e3, e4, e5, e6, hl]
@[simp] theorem R_valsM {Q : RV → Env → W → Prop} : R (valsM fo) ρ w Q ↔ R fo ρ w fun r ρ1 w1 => ∃ d, peek ρ1 r = some d ∧ ∃ ps, pairsD d = some ps ∧ Q (.fr (.lst (ps.map (·.2)))) ρ1 w1 := by
  unfold valsM
  rw [R_bind]
  constructor <;> intro h <;> refine h.mono fun r ρ1 w1 h => ?_
  · obtain ⟨a, ρ3, w3, e, q⟩ := h
    dsimp only at e
    cases e1 : peek ρ1 r with
    | none => rw [e1] at e; cases e
    | some d =>
      rw [e1] at e
      dsimp only at e
      cases e2 : pairsD d with
      | none => rw [e2] at e; cases e
      | some ps =>
        rw [e2] at e
        cases e
        exact ⟨d, rfl, ps, e2, q⟩
  · obtain ⟨d, e1, ps, e2, q⟩ := h
    exact ⟨_, _, _, by simp [e1, e2], q⟩
@[simp] theorem R_propM {cn : Str} {den : List D → W → Option (RV × W)} {Q : RV → Env → W → Prop} : R (propM cn den fo) ρ w Q ↔ R fo ρ w fun r ρ1 w1 => R (escR r) ρ1 w1 fun d ρ2 w2 => (∃ gs, d = .ins cn gs) ∧ Ran (den [d] w2) fun r' w' => Q r' ρ2 w' := by
  unfold propM
  simp only [R_bind]
  constructor <;> intro h <;> refine h.mono fun r ρ1 w1 h => h.mono fun d ρ2 w2 h => ?_
  · cases d with
    | ins c' gs =>
      dsimp only at h
      by_cases hc : c' = cn
      · rw [if_pos hc, R_runD] at h
        exact ⟨⟨gs, by rw [hc]⟩, h⟩
      · rw [if_neg hc] at h
        obtain ⟨_, _, _, e, _⟩ := h
        cases e
    | _ =>
      obtain ⟨_, _, _, e, _⟩ := h
      cases e
  · obtain ⟨⟨gs, rfl⟩, h⟩ := h
    dsimp only
    rw [if_pos rfl, R_runD]
    exact h
theorem R_zip2 {fs : M (List RV)} {Q : List D → Env → W → Prop} (h : R fs ρ w fun rs ρ1 w1 => R (escAll rs) ρ1 w1 fun ds ρ2 w2 => match ds with | [a, b] => ∃ xs, srcD a = some xs ∧ ∃ ys, srcD b = some ys ∧ Q (zip2D xs ys) ρ2 w2 | _ => False) : R (zipM fs) ρ w Q := by
  obtain ⟨rs, ρ1, w1, e1, ds, ρ2, w2, e2, h⟩ := h
  match ds, h with
  | [a, b], ⟨xs, e3, ys, e4, q⟩ =>
    refine ⟨_, _, _, ?_, q⟩
    unfold zipM
    simp [bindM, e1, e2, e3, e4]
theorem R_zip3 {fs : M (List RV)} {Q : List D → Env → W → Prop} (h : R fs ρ w fun rs ρ1 w1 => R (escAll rs) ρ1 w1 fun ds ρ2 w2 => match ds with | [a, b, c] => ∃ xs, srcD a = some xs ∧ ∃ ys, srcD b = some ys ∧ ∃ zs, srcD c = some zs ∧ Q (zip3D xs ys zs) ρ2 w2 | _ => False) : R (zipM fs) ρ w Q := by
  obtain ⟨rs, ρ1, w1, e1, ds, ρ2, w2, e2, h⟩ := h
  match ds, h with
  | [a, b, c], ⟨xs, e3, ys, e4, zs, e5, q⟩ =>
    refine ⟨_, _, _, ?_, q⟩
    unfold zipM
    simp [bindM, e1, e2, e3, e4, e5]
@[simp] theorem R_starM {Q : RV → Env → W → Prop} : R (starM fa fb) ρ w Q ↔ R fa ρ w fun r1 ρ1 w1 => R (escR r1) ρ1 w1 fun d1 ρ2 w2 => R fb ρ2 w2 fun r2 ρ3 w3 => R (escR r2) ρ3 w3 fun d2 ρ4 w4 => ∃ xs ys, seqD d1 = some xs ∧ seqD d2 = some ys ∧ xs.length + ys.length ≤ 1000000 ∧ Q (.sh (.tup (xs ++ ys))) ρ4 w4 := by
  unfold starM
  simp only [R_bind]
  constructor <;> intro h <;> refine h.mono fun r ρ1 w1 h => h.mono fun d ρ2 w2 h => h.mono fun r2 ρ3 w3 h => h.mono fun d2 ρ4 w4 h => ?_
  · obtain ⟨a, ρ5, w5, e, q⟩ := h
    dsimp only at e
    split at e
    · rename_i xs ys e1 e2
      split at e
      · rename_i hl
        cases e
        exact ⟨xs, ys, e1, e2, hl, q⟩
      · cases e
    · cases e
  · obtain ⟨xs, ys, e1, e2, hl, q⟩ := h
    exact ⟨_, _, _, by simp [e1, e2, hl], q⟩
@[simp] theorem R_orVM {Q : RV → Env → W → Prop} : R (orVM fa fb) ρ w Q ↔ R fa ρ w fun r ρ1 w1 => ∃ d, r = .sh d ∧ ∃ b, truD d = some b ∧ if b = true then Q (.sh d) ρ1 w1 else R fb ρ1 w1 Q := by
  unfold orVM
  rw [R_bind]
  constructor <;> intro h <;> refine h.mono fun r ρ1 w1 h => ?_
  · cases r with
    | sh d =>
      dsimp only at h
      cases e : truD d with
      | none =>
        rw [e] at h
        obtain ⟨_, _, _, e, _⟩ := h
        cases e
      | some b =>
        rw [e] at h
        cases b with
        | true => exact ⟨d, rfl, true, e, by simpa using h⟩
        | false => exact ⟨d, rfl, false, e, by simpa using h⟩
    | fr d =>
      obtain ⟨_, _, _, e, _⟩ := h
      cases e
    | ow j =>
      obtain ⟨_, _, _, e, _⟩ := h
      cases e
  · obtain ⟨d, rfl, b, e, h⟩ := h
    dsimp only
    rw [e]
    cases b with
    | true => simpa using h
    | false => simpa using h
/-- a dict comprehension whose turns leave the draws: keys by kf, values by vf -/
theorem R_dcM {fi : M (List D)} {vs : List Nat} {asg : D → M Unit} {test : M Bool} {fk fv : M RV} {Q : RV → Env → W → Prop} : R (dcM fi vs asg test fk fv) ρ w Q ↔ R fi ρ w fun ds ρ1 w1 => (noOwn ρ1 vs = true ∧ ds.length ≤ 1000000) ∧ R (dcL vs asg test fk fv ds []) (wipeE ρ1 vs) w1 fun ps ρ2 w2 => Q (.fr (.dit ps)) (restE ρ1 ρ2 vs) w2 := by
  unfold dcM
  rw [R_bind]
  constructor
  · rintro ⟨ds, ρ1, w1, e1, r, ρ2, w2, e2, q⟩
    refine ⟨ds, ρ1, w1, e1, ?_⟩
    dsimp only at e2
    split at e2
    · rename_i hc
      refine ⟨hc, ?_⟩
      split at e2
      · rename_i e3
        cases e2
        exact ⟨_, _, _, e3, q⟩
      · cases e2
    · cases e2
  · rintro ⟨ds, ρ1, w1, e1, hc, ys, ρ2, w2, e2, q⟩
    refine ⟨ds, ρ1, w1, e1, ⟨_, _, _, ?_, q⟩⟩
    simp [hc, e2]
@[simp] theorem R_dcTurn {asg : D → M Unit} {test : M Bool} {acc : List (D × D)} {Q : List (D × D) → Env → W → Prop} : R (dcTurn asg test fk fv d acc) ρ w Q ↔ R (asg d) ρ w fun _ ρ1 w1 => R test ρ1 w1 fun b ρ2 w2 => if b = true then R fk ρ2 w2 fun r1 ρ3 w3 => R fv ρ3 w3 fun r2 ρ4 w4 => R (escR r2) ρ4 w4 fun z ρ5 w5 => ∃ kd ks, peek ρ5 r1 = some kd ∧ keyT kd = some ks ∧ Q (putT acc ks z) ρ5 w5 else Q acc ρ2 w2 := by
  unfold dcTurn
  simp only [R_bind, R_if, R_pure]
  constructor <;> intro h <;> refine h.mono fun _ ρ1 w1 h => h.mono fun b ρ2 w2 h => ?_
  · cases b with
    | false => simpa using h
    | true =>
      simp only [if_true] at h ⊢
      refine h.mono fun r1 ρ3 w3 h => h.mono fun r2 ρ4 w4 h => h.mono fun z ρ5 w5 h => ?_
      obtain ⟨a, ρ6, w6, e, q⟩ := h
      dsimp only at e
      cases e1 : peek ρ5 r1 with
      | none => rw [e1] at e; cases e
      | some kd =>
        rw [e1] at e
        dsimp only at e
        cases e2 : keyT kd with
        | none => rw [e2] at e; cases e
        | some ks =>
          rw [e2] at e
          cases e
          exact ⟨kd, ks, rfl, e2, q⟩
  · cases b with
    | false => simpa using h
    | true =>
      simp only [if_true] at h ⊢
      refine h.mono fun r1 ρ3 w3 h => h.mono fun r2 ρ4 w4 h => h.mono fun z ρ5 w5 h => ?_
      obtain ⟨kd, ks, e1, e2, q⟩ := h
      exact ⟨_, _, _, by simp [e1, e2], q⟩
theorem R_dcLn {β : Type} {vs : List Nat} {asg : D → M Unit} {test : M Bool} {Q : List (D × D) → Env → W → Prop} (emb : α → D) (eb : β → D) (kf : α → List Int) (vf : α → β) (l : List α)
    (h : ∀ a ∈ l, ∀ acc, R (dcTurn asg test fk fv (emb a) acc) ρ w fun y ρ' w' => y = putT acc ((kf a).map Sum.inl) (eb (vf a)) ∧ wipeE ρ' vs = ρ ∧ w' = w) (q : Q ((l.foldl (fun es a => putL es (kf a) (vf a)) []).map (dE eb)) ρ w) : R (dcL vs asg test fk fv (l.map emb) []) ρ w Q := by
  have key : ∀ (l : List α) (es : List (List Int × β)), (∀ a ∈ l, ∀ acc, R (dcTurn asg test fk fv (emb a) acc) ρ w fun y ρ' w' => y = putT acc ((kf a).map Sum.inl) (eb (vf a)) ∧ wipeE ρ' vs = ρ ∧ w' = w) → dcL vs asg test fk fv (l.map emb) (es.map (dE eb)) ρ w = some ((l.foldl (fun es a => putL es (kf a) (vf a)) es).map (dE eb), ρ, w) := by
    intro l
    induction l with
    | nil => intro es _; rfl
    | cons a l ih =>
      intro es h
      obtain ⟨y, ρ1, w1, e1, rfl, e2, rfl⟩ := h a List.mem_cons_self (es.map (dE eb))
      have e3 := ih (putL es (kf a) (vf a)) fun a' h' => h a' (List.mem_cons_of_mem _ h')
      rw [List.map_cons]
      unfold dcL bindM
      rw [e1]
      simp only [wipeM, e2, putT_n, e3, List.foldl_cons]
  exact ⟨_, _, _, key l [] h, q⟩
@[simp] theorem R_lenOM {cn : Str} {den : List D → W → Option (RV × W)} {Q : RV → Env → W → Prop} : R (lenOM cn den fa) ρ w Q ↔ R fa ρ w fun r ρ1 w1 => R (insR cn r) ρ1 w1 fun d ρ2 w2 => Ran (den [d] w2) fun z w3 => ∃ n : Int, z = .sh (.int n) ∧ (0 ≤ n ∧ n ≤ 1000000) ∧ Q (.sh (.int n)) ρ2 w3 := by
  unfold lenOM
  simp only [R_bind, R_runD]
  constructor <;> intro h <;> refine h.mono fun r ρ1 w1 h => h.mono fun d ρ2 w2 h => h.mono fun z w3 h => ?_
  · split at h
    · rename_i n
      split at h
      · rename_i hn
        exact ⟨n, rfl, hn, R_pure.mp h⟩
      · obtain ⟨_, _, _, e, _⟩ := h
        cases e
    · obtain ⟨_, _, _, e, _⟩ := h
      cases e
  · obtain ⟨n, rfl, hn, q⟩ := h
    dsimp only
    rw [if_pos hn]
    exact R_pure.mpr q
theorem R_insR {cn : Str} {gs : List (Str × D)} {Q : D → Env → W → Prop} : R (insR cn (.sh (.ins cn gs))) ρ w Q ↔ Q (.ins cn gs) ρ w := R_some (by simp [insR, bindM, escR, pureM])
@[simp] theorem R_opOM {cn : Str} {den : List D → W → Option (RV × W)} {Q : RV → Env → W → Prop} : R (opOM cn den fa fb) ρ w Q ↔ R fa ρ w fun r1 ρ1 w1 => R fb ρ1 w1 fun r2 ρ2 w2 => R (insR cn r1) ρ2 w2 fun d1 ρ3 w3 => R (insR cn r2) ρ3 w3 fun d2 ρ4 w4 => Ran (den [d1, d2] w4) fun z w5 => Q z ρ4 w5 := by
  unfold opOM
  simp
@[simp] theorem R_ixOM {cn : Str} {den : List D → W → Option (RV × W)} {Q : RV → Env → W → Prop} : R (ixOM cn den fa fb) ρ w Q ↔ R fa ρ w fun r1 ρ1 w1 => R fb ρ1 w1 fun r2 ρ2 w2 => R (insR cn r1) ρ2 w2 fun d1 ρ3 w3 => R (escR r2) ρ3 w3 fun d2 ρ4 w4 => Ran (den [d1, d2] w4) fun z w5 => Q z ρ4 w5 := by
  unfold ixOM
  simp
@[simp] theorem R_chM {g g' : D → D → Option RV} {fc : M RV} {Q : RV → Env → W → Prop} : R (chM g g' fa fb fc) ρ w Q ↔ R fa ρ w fun r1 ρ1 w1 => R fb ρ1 w1 fun r2 ρ2 w2 => R (lift2 g r1 r2) ρ2 w2 fun z ρ3 w3 => ∃ b, z = .sh (.bl b) ∧ if b = true then R fc ρ3 w3 fun r3 ρ4 w4 => R (lift2 g' r2 r3) ρ4 w4 Q else Q (.sh (.bl false)) ρ3 w3 := by
  unfold chM
  simp only [R_bind]
  constructor <;> intro h <;> refine h.mono fun r ρ1 w1 h => h.mono fun r2 ρ2 w2 h => h.mono fun z ρ3 w3 h => ?_
  · split at h
    · exact ⟨true, rfl, by simpa using h⟩
    · exact ⟨false, rfl, by simpa using h⟩
    · obtain ⟨_, _, _, e, _⟩ := h
      cases e
  · obtain ⟨b, rfl, h⟩ := h
    cases b with
    | true => simpa using h
    | false => simpa using h
end
end FD

end sec_EV5
section sec_MB
set_option maxRecDepth 100000
set_option maxHeartbeats 5000000
/-! MB: rows, names of groups, groups, dependences that rows keep; plainly. -/
namespace KL
open FD (lookL putL)
/-! ### association lists -/
section
variable {α : Type}
theorem putL_keys (es : List (List Int × α)) (k : List Int) (v : α) : (putL es k v).map (·.1) = if k ∈ es.map (·.1) then es.map (·.1) else es.map (·.1) ++ [k] := by
  unfold putL
  have e : (es.any fun p => decide (p.1 = k)) = true ↔ k ∈ es.map (·.1) := by
    simp only [List.any_eq_true, decide_eq_true_eq, List.mem_map]
  by_cases h : k ∈ es.map (·.1)
  · rw [if_pos (e.mpr h), if_pos h, List.map_map]
    apply List.map_congr_left
    intro p _
    show (if p.1 = k then (p.1, v) else p).1 = p.1
    split <;> rfl
  · rw [if_neg fun z => h (e.mp z), if_neg h]
    simp
theorem look_put (es : List (List Int × α)) (k l : List Int) (v : α) : lookL (putL es k v) l = if l = k then some v else lookL es l := by
  unfold putL
  by_cases h : (es.any fun p => decide (p.1 = k)) = true
  · rw [if_pos h]
    induction es with
    | nil => cases h
    | cons p es ih =>
      obtain ⟨pk, pv⟩ := p
      by_cases hp : pk = k
      · subst hp
        by_cases hl : l = pk
        · subst hl
          simp [lookL]
        · have hl' : ¬ pk = l := fun z => hl z.symm
          simp only [lookL, List.map_cons, if_true, List.find?_cons, hl', decide_false, if_neg hl]
          by_cases h2 : (es.any fun p => decide (p.1 = pk)) = true
          · have := ih h2
            rw [if_neg hl] at this
            simpa [lookL] using this
          · have e2 : es.map (fun p => if p.1 = pk then (p.1, v) else p) = es := by
              refine (List.map_congr_left fun q hq => ?_).trans (List.map_id es)
              have : ¬ q.1 = pk := fun z => h2 (List.any_eq_true.mpr ⟨q, hq, by simpa using z⟩)
              rw [if_neg this]
              rfl
            rw [e2]
      · have h2 : (es.any fun p => decide (p.1 = k)) = true := by
          simpa [hp] using h
        have := ih h2
        by_cases hl : pk = l
        · subst hl
          simp [lookL, hp]
        · simpa [lookL, hp, hl] using this
  · rw [if_neg h]
    unfold lookL
    rw [List.find?_append]
    by_cases hl : l = k
    · subst hl
      have n : es.find? (fun p => decide (p.1 = l)) = none := by
        rw [List.find?_eq_none]
        intro p hp z
        exact h (List.any_eq_true.mpr ⟨p, hp, z⟩)
      simp [n]
    · have hl' : ¬ k = l := fun z => hl z.symm
      simp [hl, hl']
theorem look_mem {es : List (List Int × α)} {k : List Int} : (lookL es k).isSome = true ↔ k ∈ es.map (·.1) := by
  unfold lookL
  rw [Option.isSome_map, List.find?_isSome]
  simp only [decide_eq_true_eq, List.mem_map]
end
/-! ### distinct ones, in their order -/
def ddp (acc : List (List Int)) : List (List Int) → List (List Int)
  | [] => acc
  | k :: ks => ddp (if k ∈ acc then acc else acc ++ [k]) ks
theorem foldl_keys {α β : Type} (kf : α → List Int) (vf : List (List Int × β) → α → β) : ∀ (l : List α) (es : List (List Int × β)), (l.foldl (fun es a => putL es (kf a) (vf es a)) es).map (·.1) = ddp (es.map (·.1)) (l.map kf)
  | [], es => rfl
  | a :: l, es => by
    rw [List.foldl_cons, foldl_keys kf vf l, putL_keys]
    rfl
theorem mem_ddp {x : List Int} : ∀ {ks acc : List (List Int)}, x ∈ ddp acc ks ↔ x ∈ acc ∨ x ∈ ks
  | [], acc => by simp [ddp]
  | k :: ks, acc => by
    show x ∈ ddp (if k ∈ acc then acc else acc ++ [k]) ks ↔ _
    rw [mem_ddp]
    by_cases h : k ∈ acc
    · rw [if_pos h]
      constructor
      · rintro (z | z)
        · exact .inl z
        · exact .inr (List.mem_cons_of_mem _ z)
      · rintro (z | z)
        · exact .inl z
        · rcases List.mem_cons.mp z with rfl | z
          · exact .inl h
          · exact .inr z
    · rw [if_neg h]
      simp only [List.mem_append, List.mem_cons, List.not_mem_nil, or_false]
      constructor
      · rintro ((z | z) | z)
        · exact .inl z
        · exact .inr (.inl z)
        · exact .inr (.inr z)
      · rintro (z | z | z)
        · exact .inl (.inl z)
        · exact .inl (.inr z)
        · exact .inr z
theorem nodup_ddp : ∀ {ks acc : List (List Int)}, acc.Nodup → (ddp acc ks).Nodup
  | [], acc, h => h
  | k :: ks, acc, h => by
    show (ddp (if k ∈ acc then acc else acc ++ [k]) ks).Nodup
    apply nodup_ddp
    by_cases hk : k ∈ acc
    · rw [if_pos hk]
      exact h
    · rw [if_neg hk]
      refine List.nodup_append.mpr ⟨h, by simp, ?_⟩
      intro a ha b hb
      rw [List.mem_singleton.mp hb]
      exact fun z => hk (z ▸ ha)
theorem ddp_one {ks : List (List Int)} : (ddp [] ks).length ≤ 1 ↔ ∀ a ∈ ks, ∀ b ∈ ks, a = b := by
  have nd : (ddp [] ks).Nodup := nodup_ddp (by simp)
  constructor
  · intro h a ha b hb
    have ha' := mem_ddp.mpr (.inr ha : a ∈ [] ∨ a ∈ ks)
    have hb' := mem_ddp.mpr (.inr hb : b ∈ [] ∨ b ∈ ks)
    match e : ddp [] ks, h with
    | [], _ =>
      rw [e] at ha'
      cases ha'
    | [c], _ =>
      rw [e] at ha' hb'
      rw [List.mem_singleton.mp ha', List.mem_singleton.mp hb']
    | _ :: _ :: _, h => simp at h
  · intro h
    match e : ddp [] ks with
    | [] => simp
    | [c] => simp
    | a :: b :: r =>
      exfalso
      rw [e] at nd
      have m : ∀ x ∈ a :: b :: r, x ∈ ks := fun x hx => by
        rw [← e] at hx
        exact (mem_ddp.mp hx).elim (fun z => nomatch z) id
      have : a = b := h a (m a (by simp)) b (m b (by simp))
      subst this
      simp at nd
/-! ### groups of 0 .. n - 1 by names -/
def firsts (f : Nat → List Int) (n : Nat) : List Nat := (List.range n).filter fun i => decide (∀ j, j < i → f j ≠ f i)
def cls (f : Nat → List Int) (n : Nat) (i : Nat) : List Nat := (List.range n).filter fun k => decide (f k = f i)
def grpF (f : Nat → List Int) (n : Nat) : List (List Int × List Nat) := (List.range n).foldl (fun es i => putL es (f i) ((lookL es (f i)).getD [] ++ [i])) []
theorem first_of (f : Nat → List Int) : ∀ (n : Nat) (j : Nat), j < n → ∃ i, i ≤ j ∧ f i = f j ∧ ∀ k, k < i → f k ≠ f i
  | 0, j, h => absurd h (by omega)
  | n + 1, j, h => by
    by_cases q : ∀ k, k < j → f k ≠ f j
    · exact ⟨j, Nat.le_refl _, rfl, q⟩
    · obtain ⟨k, hk⟩ := Classical.not_forall.mp q
      obtain ⟨h1, h2⟩ := Classical.not_imp.mp hk
      have h2 : f k = f j := Classical.not_not.mp h2
      obtain ⟨i, i1, i2, i3⟩ := first_of f n k (by omega)
      exact ⟨i, by omega, i2.trans h2, i3⟩
theorem mem_firsts {f : Nat → List Int} {n i : Nat} : i ∈ firsts f n ↔ i < n ∧ ∀ j, j < i → f j ≠ f i := by
  simp [firsts]
theorem mem_cls {f : Nat → List Int} {n i k : Nat} : k ∈ cls f n i ↔ k < n ∧ f k = f i := by
  simp [cls]
theorem cls_succ (f : Nat → List Int) (n i : Nat) : cls f (n + 1) i = cls f n i ++ if f n = f i then [n] else [] := by
  unfold cls
  rw [List.range_succ, List.filter_append]
  congr 1
  by_cases h : f n = f i <;> simp [h]
theorem firsts_succ (f : Nat → List Int) (n : Nat) : firsts f (n + 1) = firsts f n ++ if ∀ j, j < n → f j ≠ f n then [n] else [] := by
  unfold firsts
  rw [List.range_succ, List.filter_append]
  congr 1
  by_cases h : ∀ j, j < n → f j ≠ f n
  · rw [if_pos h]
    simp [h]
    exact h
  · rw [if_neg h]
    simp only [List.filter_cons, List.filter_nil]
    rw [if_neg]
    simpa using h
theorem cls_same {f : Nat → List Int} {n i j : Nat} (h : f i = f j) : cls f n i = cls f n j := by
  unfold cls
  rw [h]
theorem grpF_eq (f : Nat → List Int) : ∀ n, grpF f n = (firsts f n).map fun i => (f i, cls f n i)
  | 0 => rfl
  | n + 1 => by
    have ih := grpF_eq f n
    unfold grpF at ih ⊢
    rw [List.range_succ, List.foldl_append, ih, List.foldl_cons, List.foldl_nil, firsts_succ]
    by_cases h : ∀ j, j < n → f j ≠ f n
    · rw [if_pos h]
      have nk : f n ∉ ((firsts f n).map fun i => (f i, cls f n i)).map (·.1) := fun z => by
        simp only [List.map_map, List.mem_map] at z
        obtain ⟨i, hi, e⟩ := z
        exact h i (mem_firsts.mp hi).1 e
      have e1 : lookL ((firsts f n).map fun i => (f i, cls f n i)) (f n) = none := by
        cases q : lookL ((firsts f n).map fun i => (f i, cls f n i)) (f n) with
        | none => rfl
        | some v => exact absurd (look_mem.mp (by rw [q]; rfl)) nk
      have e2 : (((firsts f n).map fun i => (f i, cls f n i)).any fun p => decide (p.1 = f n)) = false := by
        rw [Bool.eq_false_iff]
        intro z
        obtain ⟨p, hp, e⟩ := List.any_eq_true.mp z
        exact nk (List.mem_map.mpr ⟨p, hp, by simpa using e⟩)
      unfold putL
      rw [e1, e2, List.map_append]
      simp only [Bool.false_eq_true, if_false, Option.getD_none, List.nil_append, List.map_cons, List.map_nil]
      congr 1
      · apply List.map_congr_left
        intro i hi
        rw [cls_succ, if_neg fun z => h i (mem_firsts.mp hi).1 z.symm]
        simp
      · rw [cls_succ, if_pos rfl]
        have : cls f n n = [] := by
          unfold cls
          rw [List.filter_eq_nil_iff]
          intro k hk
          simpa using h k (List.mem_range.mp hk)
        rw [this]
        rfl
    · rw [if_neg h, List.append_nil]
      obtain ⟨k, hk⟩ := Classical.not_forall.mp h
      obtain ⟨h1, h2⟩ := Classical.not_imp.mp hk
      have h2 : f k = f n := Classical.not_not.mp h2
      obtain ⟨i0, i1, i2, i3⟩ := first_of f n k h1
      have hi0 : i0 ∈ firsts f n := mem_firsts.mpr ⟨by omega, i3⟩
      have f0 : f i0 = f n := i2.trans h2
      have uniq : ∀ i ∈ firsts f n, f i = f n → i = i0 := fun i hi e => by
        have a := (mem_firsts.mp hi).2
        rcases Nat.lt_trichotomy i i0 with z | z | z
        · exact absurd (e.trans f0.symm) (i3 i z)
        · exact z
        · exact absurd (f0.trans e.symm) (a i0 z)
      have e2 : (((firsts f n).map fun i => (f i, cls f n i)).any fun p => decide (p.1 = f n)) = true := by
        refine List.any_eq_true.mpr ⟨(f i0, cls f n i0), List.mem_map.mpr ⟨i0, hi0, rfl⟩, ?_⟩
        simpa using f0
      have e1 : lookL ((firsts f n).map fun i => (f i, cls f n i)) (f n) = some (cls f n i0) := by
        have s : (lookL ((firsts f n).map fun i => (f i, cls f n i)) (f n)).isSome = true := look_mem.mpr (by
          simp only [List.map_map, List.mem_map]
          exact ⟨i0, hi0, f0⟩)
        unfold lookL at s ⊢
        cases q : ((firsts f n).map fun i => (f i, cls f n i)).find? fun p => decide (p.1 = f n) with
        | none =>
          rw [q] at s
          cases s
        | some p =>
          have m := List.mem_of_find?_eq_some q
          have e := List.find?_some q
          obtain ⟨i, hi, rfl⟩ := List.mem_map.mp m
          have : i = i0 := uniq i hi (by simpa using e)
          rw [this]
          rfl
      unfold putL
      rw [e1, e2, if_pos rfl, List.map_map]
      apply List.map_congr_left
      intro i hi
      show (if f i = f n then (f i, (some (cls f n i0)).getD [] ++ [n]) else (f i, cls f n i)) = (f i, cls f (n + 1) i)
      rw [cls_succ]
      by_cases e : f i = f n
      · rw [if_pos e, if_pos e.symm, uniq i hi e]
        rfl
      · rw [if_neg e, if_neg fun z => e z.symm, List.append_nil]
/-- the groups, as lists of numbers -/
def grps (f : Nat → List Int) (n : Nat) : List (List Nat) := (firsts f n).map (cls f n)
theorem grpF_vals (f : Nat → List Int) (n : Nat) : (grpF f n).map (·.2) = grps f n := by
  rw [grpF_eq, List.map_map]
  rfl
theorem grps_same {f g : Nat → List Int} {n : Nat} (h : ∀ i j, i < n → j < n → (f i = f j ↔ g i = g j)) : grps f n = grps g n := by
  unfold grps
  have e : firsts f n = firsts g n := by
    unfold firsts
    apply List.filter_congr
    intro i hi
    have hi := List.mem_range.mp hi
    rw [decide_eq_decide]
    constructor
    · intro q j hj z
      exact q j hj ((h j i (by omega) hi).mpr z)
    · intro q j hj z
      exact q j hj ((h j i (by omega) hi).mp z)
  rw [e]
  apply List.map_congr_left
  intro i hi
  have hi := (mem_firsts.mp hi).1
  unfold cls
  apply List.filter_congr
  intro k hk
  have hk := List.mem_range.mp hk
  rw [decide_eq_decide]
  exact h k i hk hi
/-- rows that agree by f agree by g -/
def KeptN (f g : Nat → List Int) (n : Nat) : Prop := ∀ i j, i < n → j < n → f i = f j → g i = g j
theorem kept_grps {f g : Nat → List Int} {n : Nat} : KeptN f g n ↔ ∀ l ∈ grps f n, ∀ a ∈ l, ∀ b ∈ l, g a = g b := by
  constructor
  · intro h l hl a ha b hb
    obtain ⟨i, hi, rfl⟩ := List.mem_map.mp hl
    obtain ⟨a1, a2⟩ := mem_cls.mp ha
    obtain ⟨b1, b2⟩ := mem_cls.mp hb
    exact h a b a1 b1 (a2.trans b2.symm)
  · intro h i j hi hj e
    obtain ⟨k, k1, k2, k3⟩ := first_of f n i hi
    exact h (cls f n k) (List.mem_map.mpr ⟨k, mem_firsts.mpr ⟨by omega, k3⟩, rfl⟩) i (mem_cls.mpr ⟨hi, k2.symm⟩) j (mem_cls.mpr ⟨hj, (k2.trans e).symm⟩)
end KL

end sec_MB
section sec_MC
set_option maxRecDepth 100000
set_option maxHeartbeats 5000000
/-! MC: rows; names of groups of rows; closures and what rows keep. -/
namespace KL
open ST (Up up_eq setN mem_setN up_setN)
structure Row where
  keys : List Int
  x : Int
  v : Int
  w : Int
  deriving Inhabited, DecidableEq
structure Row.Ok (cs : List Nat) (r : Row) : Prop where
  len : r.keys.length = cs.length
  pos : ∀ k ∈ r.keys, 0 ≤ k
  v1 : 1 ≤ r.v
  w1 : 1 ≤ r.w
/-- keys in the columns that are in l -/
def keysIn (cs l : List Nat) (ks : List Int) : List Int := ((ks.zip cs).filter fun p => decide (p.2 ∈ l)).map (·.1)
def nm (cs l : List Nat) (ks : List Int) (i : Nat) : List Int := keysIn cs l ks ++ if 114 ∈ l then [(i : Int)] else []
/-- the name of the group of the row i -/
def nmR (cs l : List Nat) (rows : List Row) (i : Nat) : List Int := nm cs l ((rows[i]?.getD default).keys) i
/-- keys agree in the column c -/
def AgC (cs : List Nat) (ks ks' : List Int) (c : Nat) : Prop := ∀ a b, ((a, b), c) ∈ (ks.zip ks').zip cs → a = b
theorem keysIn_len (l : List Nat) : ∀ (cs : List Nat) (ks ks' : List Int), ks.length = cs.length → ks'.length = cs.length → (keysIn cs l ks).length = (keysIn cs l ks').length
  | [], ks, ks', _, _ => by simp [keysIn]
  | c :: cs, [], _, h, _ => by cases h
  | c :: cs, _ :: _, [], _, h => by cases h
  | c :: cs, k :: ks, k' :: ks', h, h' => by
    have ih := keysIn_len l cs ks ks' (by simpa using h) (by simpa using h')
    unfold keysIn at ih ⊢
    by_cases q : c ∈ l <;> simp [q] <;> simpa using ih
theorem keysIn_eq (l : List Nat) : ∀ (cs : List Nat) (ks ks' : List Int), ks.length = cs.length → ks'.length = cs.length → (keysIn cs l ks = keysIn cs l ks' ↔ ∀ c ∈ l, AgC cs ks ks' c)
  | [], ks, ks', _, _ => by simp [keysIn, AgC]
  | c :: cs, [], _, h, _ => by cases h
  | c :: cs, _ :: _, [], _, h => by cases h
  | c :: cs, k :: ks, k' :: ks', h, h' => by
    have ih := keysIn_eq l cs ks ks' (by simpa using h) (by simpa using h')
    have st : ∀ x, AgC (c :: cs) (k :: ks) (k' :: ks') x ↔ (x = c → k = k') ∧ AgC cs ks ks' x := fun x => by
      unfold AgC
      constructor
      · intro q
        exact ⟨fun e => q k k' (by simp [e]), fun a b m => q a b (List.mem_cons_of_mem _ m)⟩
      · rintro ⟨q1, q2⟩ a b m
        rcases List.mem_cons.mp m with z | z
        · cases z
          exact q1 rfl
        · exact q2 a b z
    unfold keysIn at ih ⊢
    by_cases q : c ∈ l
    · simp only [List.zip_cons_cons, List.filter_cons, q, decide_true, if_true, List.map_cons, List.cons.injEq, ih]
      constructor
      · rintro ⟨e, z⟩ x hx
        exact (st x).mpr ⟨fun _ => e, z x hx⟩
      · intro z
        exact ⟨((st c).mp (z c q)).1 rfl, fun x hx => ((st x).mp (z x hx)).2⟩
    · simp only [List.zip_cons_cons, List.filter_cons, q, decide_false, Bool.false_eq_true, if_false, ih]
      constructor
      · intro z x hx
        exact (st x).mpr ⟨fun e => absurd (e ▸ hx) q, z x hx⟩
      · intro z x hx
        exact ((st x).mp (z x hx)).2
theorem AgC.refl (cs : List Nat) (ks : List Int) (c : Nat) : AgC cs ks ks c := by
  induction cs generalizing ks with
  | nil => intro a b h; simp at h
  | cons d cs ih =>
    cases ks with
    | nil => intro a b h; simp at h
    | cons k ks =>
      intro a b h
      rcases List.mem_cons.mp h with z | z
      · cases z
        rfl
      · exact ih ks a b z
/-- two rows agree on a letter -/
def Ag (cs : List Nat) (rows : List Row) (i j : Nat) (c : Nat) : Prop := (c = 114 → i = j) ∧ AgC cs ((rows[i]?.getD default).keys) ((rows[j]?.getD default).keys) c
theorem Ag.refl {cs : List Nat} {rows : List Row} {i c : Nat} : Ag cs rows i i c := ⟨fun _ => rfl, AgC.refl _ _ _⟩
theorem nm_eq {cs l : List Nat} {rows : List Row} {i j : Nat} (hr : ∀ r ∈ rows, r.Ok cs) (hi : i < rows.length) (hj : j < rows.length) : nmR cs l rows i = nmR cs l rows j ↔ ∀ c ∈ l, Ag cs rows i j c := by
  have oi := (hr rows[i] (List.getElem_mem hi)).len
  have oj := (hr rows[j] (List.getElem_mem hj)).len
  have ei : (rows[i]?.getD default).keys = rows[i].keys := by simp [hi]
  have ej : (rows[j]?.getD default).keys = rows[j].keys := by simp [hj]
  have kl := keysIn_len l cs _ _ oi oj
  have ke := keysIn_eq l cs _ _ oi oj
  unfold nmR nm Ag
  rw [ei, ej]
  by_cases h : 114 ∈ l
  · rw [if_pos h, if_pos h]
    constructor
    · intro e
      obtain ⟨e1, e2⟩ := List.append_inj e kl
      have e2 : (i : Int) = j := by simpa using e2
      exact fun c hc => ⟨fun _ => by omega, ke.mp e1 c hc⟩
    · intro e
      have e2 : i = j := (e 114 h).1 rfl
      rw [ke.mpr fun c hc => (e c hc).2, e2]
  · rw [if_neg h, if_neg h, List.append_nil, List.append_nil, ke]
    constructor
    · intro e c hc
      exact ⟨fun z => absurd (z ▸ hc) h, e c hc⟩
    · intro e c hc
      exact (e c hc).2
/-- rows keep a dependence -/
def Keeps (cs : List Nat) (rows : List Row) (p : List Nat × Nat) : Prop := KeptN (nmR cs p.1 rows) (nmR cs [p.2] rows) rows.length
theorem Keeps.iff {cs : List Nat} {rows : List Row} {p : List Nat × Nat} (hr : ∀ r ∈ rows, r.Ok cs) : Keeps cs rows p ↔ ∀ i j, i < rows.length → j < rows.length → (∀ c ∈ p.1, Ag cs rows i j c) → Ag cs rows i j p.2 := by
  unfold Keeps KeptN
  constructor
  · intro h i j hi hj q
    have := h i j hi hj ((nm_eq hr hi hj).mpr q)
    exact (nm_eq hr hi hj).mp this p.2 (by simp)
  · intro h i j hi hj q
    refine (nm_eq hr hi hj).mpr fun c hc => ?_
    rw [List.mem_singleton.mp hc]
    exact h i j hi hj ((nm_eq hr hi hj).mp q)
theorem Ag.cl {cs : List Nat} {ds : List (List Nat × Nat)} {rows : List Row} (hr : ∀ r ∈ rows, r.Ok cs) (hk : ∀ p ∈ ds, Keeps cs rows p) {i j : Nat} (hi : i < rows.length) (hj : j < rows.length) {l : List Nat} (h : ∀ c ∈ l, Ag cs rows i j c) {c : Nat} (hc : InCl cs ds l c) : Ag cs rows i j c := by
  induction hc with
  | base h1 => exact h _ h1
  | row h1 h2 ih =>
    have e := ih.1 rfl
    subst e
    exact Ag.refl
  | dep h1 h2 ih => exact (Keeps.iff hr).mp (hk _ h1) i j hi hj ih
theorem grps_cl {cs : List Nat} {ds : List (List Nat × Nat)} {rows : List Row} (hd : ∀ p ∈ ds, Dep cs p) (hr : ∀ r ∈ rows, r.Ok cs) (hk : ∀ p ∈ ds, Keeps cs rows p) {l : List Nat} (hl : Set_ cs l) : grps (nmR cs l rows) rows.length = grps (nmR cs (cl cs ds l) rows) rows.length := by
  refine grps_same fun i j hi hj => ?_
  rw [nm_eq hr hi hj, nm_eq hr hi hj]
  have hm : ∀ c, c ∈ cl cs ds l ↔ InCl cs ds l c := fun c => mem_cl hd fun x hx => hl.subset hx
  constructor
  · intro h c hc
    exact Ag.cl hr hk hi hj h ((hm c).mp hc)
  · intro h c hc
    exact h c ((hm c).mpr (.base hc))
/-- the first dependence that is not kept -/
noncomputable def brk (cs : List Nat) (rows : List Row) (ds : List (List Nat × Nat)) : Option Nat := ds.findIdx? fun p => !@decide (Keeps cs rows p) (Classical.propDecidable _)
theorem brk_none {cs : List Nat} {rows : List Row} {ds : List (List Nat × Nat)} : brk cs rows ds = none ↔ ∀ p ∈ ds, Keeps cs rows p := by
  unfold brk
  rw [List.findIdx?_eq_none_iff]
  constructor
  · intro h p hp
    have := h p hp
    simpa using this
  · intro h p hp
    simpa using h p hp
/-! ### closed sets -/
section
variable {cs : List Nat} {ds : List (List Nat × Nat)} {l m : List Nat}
theorem cl_base (hd : ∀ p ∈ ds, Dep cs p) (hl : Set_ cs l) : ∀ x ∈ l, x ∈ cl cs ds l := fun x hx => (mem_cl hd fun y hy => hl.subset hy).mpr (.base hx)
theorem cl_cld (hd : ∀ p ∈ ds, Dep cs p) (hl : Set_ cs l) : Cld cs ds (cl cs ds l) := by
  have hm : ∀ c, c ∈ cl cs ds l ↔ InCl cs ds l c := fun c => mem_cl hd fun x hx => hl.subset hx
  refine ⟨fun h c hc => (hm c).mpr (.row ((hm _).mp h) hc), fun p hp h => ?_⟩
  obtain ⟨lo, c⟩ := p
  exact (hm c).mpr (.dep hp fun x hx => (hm x).mp (h x hx))
theorem cl_fix (hC : Col cs) (hd : ∀ p ∈ ds, Dep cs p) (hl : Set_ cs l) : cl cs ds l = l ↔ Cld cs ds l := by
  constructor
  · intro h
    rw [← h]
    exact cl_cld hd hl
  · intro h
    exact (cl_of_closed hC hd (fun x hx => hl.subset hx) (hl.up hC) (fun _ h => h) h fun x hx => .base hx).symm
theorem cl_cl (hC : Col cs) (hd : ∀ p ∈ ds, Dep cs p) (hl : Set_ cs l) : cl cs ds (cl cs ds l) = cl cs ds l := (cl_fix hC hd cl_set).mpr (cl_cld hd hl)
theorem cl_mono (hd : ∀ p ∈ ds, Dep cs p) (hl : Set_ cs l) (hm : Set_ cs m) (h : ∀ x ∈ l, x ∈ m) : ∀ x ∈ cl cs ds l, x ∈ cl cs ds m := fun x hx =>
  (((mem_cl hd fun y hy => hl.subset hy).mp hx).le (cl_cld hd hm) fun y hy => cl_base hd hm y (h y hy))
theorem Cld.inter (h1 : Cld cs ds l) (h2 : Cld cs ds m) : Cld cs ds (l.filter fun c => decide (c ∈ m)) := by
  constructor
  · intro h c hc
    obtain ⟨a, b⟩ := List.mem_filter.mp h
    exact List.mem_filter.mpr ⟨h1.1 a c hc, by simpa using h2.1 (by simpa using b) c hc⟩
  · intro p hp h
    refine List.mem_filter.mpr ⟨h1.2 p hp fun x hx => (List.mem_filter.mp (h x hx)).1, ?_⟩
    simpa using h2.2 p hp fun x hx => by simpa using (List.mem_filter.mp (h x hx)).2
end
end KL

end sec_MC
section sec_T1
set_option maxRecDepth 100000
set_option maxHeartbeats 5000000
/-! T1: names and groups of the rows of a table. -/
namespace KL
open PySem L2 FD
open ST (Up up_eq setN mem_setN up_setN)
local instance tt1 : Tabl := ⟨[]⟩
abbrev rowD (r : Row) : D := .tup [nD r.keys, .int r.x, .int r.v, .int r.w]
abbrev tabF (cs : List Nat) (rows : List Row) : List (Str × D) := [("own_columns", S cs), ("own_rows", .tup (rows.map rowD))]
abbrev tab (cs : List Nat) (rows : List Row) : D := .ins "Table" (tabF cs rows)
theorem tfld_c {cs : List Nat} {rows : List Row} : fldD "Table" "own_columns" (tab cs rows) = some (.sh (S cs)) := by simp [fldD]
theorem tfld_r {cs : List Nat} {rows : List Row} : fldD "Table" "own_rows" (tab cs rows) = some (.sh (.tup (rows.map rowD))) := by
  have n1 : (("own_rows" : Str) == ("own_columns" : Str)) = false := by decide +kernel
  simp [fldD, List.lookup_cons, n1]
theorem Table_rows_eq {cs : List Nat} {rows : List Row} {w : W} : D_Table_rows [tab cs rows] w = some (.sh (.tup (rows.map rowD)), w) := by
  refine D_eq ?_
  simp [d_Table_rows, startE, R_var, tfld_r, outR]
theorem Table_columns_eq {cs : List Nat} {rows : List Row} {w : W} : D_Table_columns [tab cs rows] w = some (.sh (S cs), w) := by
  refine D_eq ?_
  simp [d_Table_columns, startE, R_var, tfld_c, outR]
theorem atI_map {α : Type} (f : α → D) (xs : List α) (i : Nat) (h : i < xs.length) : L2.atI (xs.map f) (i : Int) = some (f xs[i]) := by
  rw [atI_nat _ _ (by simpa using h)]
  simp
theorem zip2_keys (ks : List Int) (cs : List Nat) : zip2D (ks.map D.int) (cs.map fun c => S [c]) = (ks.zip cs).map fun p => .tup [.int p.1, S [p.2]] := by
  unfold zip2D
  rw [List.zip_map, List.map_map]
  rfl
theorem name_at_eq {cs l : List Nat} {rows : List Row} {i : Nat} {w : W} (hc : cs.length ≤ 1000) (hi : i < rows.length) (hk : (rows[i]).keys.length ≤ 1000) : D_name_at [tab cs rows, S l, .int i] w = some (.sh (nD (nmR cs l rows i)), w) := by
  refine D_eq ?_
  have a1 := atI_map rowD rows i hi
  have a0 : L2.atI [nD rows[i].keys, D.int rows[i].x, D.int rows[i].v, D.int rows[i].w] 0 = some (nD rows[i].keys) := rfl
  unfold d_name_at
  refine R_then (fun ρ' w' => w' = w ∧ ρ' = [some (.val (tab cs rows)), some (.val (S l)), some (.val (.int i)), some (.own (.lst ((keysIn cs l rows[i].keys).map D.int))), none, none]) ?_ ?_
  · simp only [R_bind, R_lcM]
    refine R_zip2 ?_
    simp [startE, R_var, Table_rows_eq, Table_columns_eq, ixD, a1, a0]
    refine ⟨_, rfl, _, rfl, ?_⟩
    have z := zip2_keys rows[i].keys cs
    rw [z]
    refine ⟨⟨rfl, by simp; omega⟩, R_lcFil (fun p : Int × Nat => .tup [.int p.1, S [p.2]]) (fun p => decide (p.2 ∈ l)) (fun p => .int p.1) _ (fun p hp => ?_) ?_⟩
    · by_cases h : p.2 ∈ l <;> simp [R_var, inS_S, wipeE, h]
    · simp [restE, wipeE, keysIn]
  · rintro _ _ ⟨rfl, rfl⟩
    have e : nmR cs l rows i = nm cs l rows[i].keys i := by simp [nmR, hi]
    rw [e]
    have hkl : (keysIn cs l rows[i].keys).length ≤ 1000 := by
      unfold keysIn
      rw [List.length_map]
      refine Nat.le_trans (List.length_filter_le _ _) ?_
      simp
      omega
    by_cases h : 114 ∈ l
    · have e2 : addD (.lst ((keysIn cs l rows[i].keys).map D.int)) (.lst [.int i]) = some (.fr (.lst ((keysIn cs l rows[i].keys ++ [(i : Int)]).map D.int))) := by
        simp [addD]
        omega
      simp [R_var, R_own, lit_r, inS_S, h, R_lift2g, R_liftNg, peek, peeks, slotD, e2, tupD, outR, nm, -List.map_append]
    · simp [R_var, R_own, lit_r, inS_S, h, R_lift2g, R_liftNg, peek, peeks, slotD, tupD, outR, nm]
end KL

end sec_T1
section sec_EV6
set_option maxRecDepth 100000
set_option maxHeartbeats 5000000
/-! EV6: loops over range(n) and over numbered lists. -/
namespace FD
open PySem L2
local instance tl6e : Tabl := ⟨[]⟩
theorem R_forRange {g : D → M Unit} {body : M Fl} {Q : Fl → Env → W → Prop} (Inv : Nat → Env → W → Prop) (n : Nat) (step : ∀ k ρ w, k < n → Inv k ρ w → R (g (.int (k : Int))) ρ w fun _ ρ1 w1 => R body ρ1 w1 fun fl ρ2 w2 => match fl with
    | .nx => Inv (k + 1) ρ2 w2
    | .ct => Inv (k + 1) ρ2 w2
    | .bk => Q .nx ρ2 w2
    | .ret r => Q (.ret r) ρ2 w2) (fin : ∀ ρ w, Inv n ρ w → Q .nx ρ w) (ρ : Env) (w : W) (h : Inv 0 ρ w) : R (forL g body ((List.range n).map fun (i : Nat) => D.int (i : Int))) ρ w Q := by
  refine R_forLm (fun (i : Nat) => D.int (i : Int)) (fun rest ρ w => ∃ k, k ≤ n ∧ rest = (List.range n).drop k ∧ Inv k ρ w) ?_ ?_ _ _ _ ⟨0, Nat.zero_le _, rfl, h⟩
  · rintro d ds ρ w ⟨k, hk, e, hi⟩
    have hlt : k < n := by
      rcases Nat.lt_or_ge k n with z | z
      · exact z
      · rw [List.drop_eq_nil_of_le (by simpa using z)] at e
        cases e
    rw [List.drop_eq_getElem_cons (by simpa using hlt)] at e
    cases e
    rw [List.getElem_range]
    refine (step k ρ w hlt hi).mono fun _ ρ1 w1 h => h.mono fun fl ρ2 w2 h => ?_
    cases fl with
    | nx => exact ⟨k + 1, hlt, rfl, h⟩
    | ct => exact ⟨k + 1, hlt, rfl, h⟩
    | bk => exact h
    | ret r => exact h
  · rintro ρ w ⟨k, hk, e, hi⟩
    have : k = n := by
      have := congrArg List.length e
      simp at this
      omega
    rw [this] at hi
    exact fin ρ w hi
/-- a loop over a list, by the number of the turn -/
theorem R_forIdx {α : Type} {g : D → M Unit} {body : M Fl} {Q : Fl → Env → W → Prop} (emb : α → D) (l : List α) (Inv : Nat → Env → W → Prop) (step : ∀ (k : Nat) ρ w (hk : k < l.length), Inv k ρ w → R (g (emb l[k])) ρ w fun _ ρ1 w1 => R body ρ1 w1 fun fl ρ2 w2 => match fl with
    | .nx => Inv (k + 1) ρ2 w2
    | .ct => Inv (k + 1) ρ2 w2
    | .bk => Q .nx ρ2 w2
    | .ret r => Q (.ret r) ρ2 w2) (fin : ∀ ρ w, Inv l.length ρ w → Q .nx ρ w) (ρ : Env) (w : W) (h : Inv 0 ρ w) : R (forL g body (l.map emb)) ρ w Q := by
  refine R_forLm emb (fun rest ρ w => ∃ k, k ≤ l.length ∧ rest = l.drop k ∧ Inv k ρ w) ?_ ?_ _ _ _ ⟨0, Nat.zero_le _, rfl, h⟩
  · rintro d ds ρ w ⟨k, hk, e, hi⟩
    have hlt : k < l.length := by
      rcases Nat.lt_or_ge k l.length with z | z
      · exact z
      · rw [List.drop_eq_nil_of_le z] at e
        cases e
    rw [List.drop_eq_getElem_cons hlt] at e
    cases e
    refine (step k ρ w hlt hi).mono fun _ ρ1 w1 h => h.mono fun fl ρ2 w2 h => ?_
    cases fl with
    | nx => exact ⟨k + 1, hlt, rfl, h⟩
    | ct => exact ⟨k + 1, hlt, rfl, h⟩
    | bk => exact h
    | ret r => exact h
  · rintro ρ w ⟨k, hk, e, hi⟩
    have : k = l.length := by
      have := congrArg List.length e
      simp at this
      omega
    rw [this] at hi
    exact fin ρ w hi
section
variable {α : Type} {ρ : Env} {w : W}
theorem R_lc2M {fi : M (List D)} {vs : List Nat} {turn : D → M (List D)} {Q : RV → Env → W → Prop} : R (lc2M fi vs turn) ρ w Q ↔ R fi ρ w fun ds ρ1 w1 => (noOwn ρ1 vs = true ∧ ds.length ≤ 1000) ∧ R (lc2L vs turn ds) (wipeE ρ1 vs) w1 fun ys ρ2 w2 => Q (.fr (.lst ys)) (restE ρ1 ρ2 vs) w2 := by
  unfold lc2M
  rw [R_bind]
  constructor
  · rintro ⟨ds, ρ1, w1, e1, r, ρ2, w2, e2, q⟩
    refine ⟨ds, ρ1, w1, e1, ?_⟩
    dsimp only at e2
    split at e2
    · rename_i hc
      refine ⟨hc, ?_⟩
      split at e2
      · rename_i e3
        cases e2
        exact ⟨_, _, _, e3, q⟩
      · cases e2
    · cases e2
  · rintro ⟨ds, ρ1, w1, e1, hc, ys, ρ2, w2, e2, q⟩
    refine ⟨ds, ρ1, w1, e1, ⟨_, _, _, ?_, q⟩⟩
    simp [hc, e2]
theorem R_lc2Map {vs : List Nat} {turn : D → M (List D)} {Q : List D → Env → W → Prop} (emb : α → D) (f : α → List D) (l : List α) (h : ∀ a ∈ l, R (turn (emb a)) ρ w fun ys ρ' w' => ys = f a ∧ wipeE ρ' vs = ρ ∧ w' = w) (q : Q (l.flatMap f) ρ w) : R (lc2L vs turn (l.map emb)) ρ w Q := by
  have key : ∀ (l : List α), (∀ a ∈ l, R (turn (emb a)) ρ w fun ys ρ' w' => ys = f a ∧ wipeE ρ' vs = ρ ∧ w' = w) → lc2L vs turn (l.map emb) ρ w = some (l.flatMap f, ρ, w) := by
    intro l
    induction l with
    | nil => intro _; rfl
    | cons a l ih =>
      intro h
      obtain ⟨y, ρ1, w1, e1, rfl, e2, rfl⟩ := h a List.mem_cons_self
      have e3 := ih fun d' h' => h d' (List.mem_cons_of_mem _ h')
      rw [List.map_cons]
      unfold lc2L bindM
      rw [e1]
      simp only [wipeM, e2, e3, pureM, List.flatMap_cons]
  exact ⟨_, _, _, key l h, q⟩
theorem R_lc2Turn {g g1 : D → M Unit} {tt tt1 : M Bool} {fi1 : M (List D)} {vs1 : List Nat} {fe : M RV} {d : D} {Q : List D → Env → W → Prop} : R (lc2Turn g tt fi1 vs1 g1 tt1 fe d) ρ w Q ↔ R (g d) ρ w fun _ ρ1 w1 => R tt ρ1 w1 fun b ρ2 w2 => if b = true then R fi1 ρ2 w2 fun ds1 ρ3 w3 => ds1.length ≤ 1000 ∧ R (lcL vs1 g1 tt1 fe ds1) (wipeE ρ3 vs1) w3 Q else Q [] ρ2 w2 := by
  unfold lc2Turn
  simp only [R_bind, R_if, R_pure]
  constructor <;> intro h <;> refine h.mono fun _ ρ1 w1 h => h.mono fun b ρ2 w2 h => ?_
  · cases b with
    | false => simpa using h
    | true =>
      simp only [if_true] at h ⊢
      refine h.mono fun ds1 ρ3 w3 h => ?_
      obtain ⟨_, ρ4, w4, e, h⟩ := h
      cases e
      by_cases hl : ds1.length ≤ 1000
      · rw [if_pos hl] at h
        exact ⟨hl, h⟩
      · rw [if_neg hl] at h
        obtain ⟨_, _, _, e, _⟩ := h
        cases e
  · cases b with
    | false => simpa using h
    | true =>
      simp only [if_true] at h ⊢
      refine h.mono fun ds1 ρ3 w3 h => ?_
      refine ⟨(), _, _, rfl, ?_⟩
      simpa [h.1] using h.2
/-- turns that may turn what a slot owns into what is only looked at -/
theorem R_lcMapI {vs : List Nat} {asg : D → M Unit} {test : M Bool} {elt : M RV} {Q : List D → Env → W → Prop} (Inv : Env → Prop) (emb : α → D) (f : α → D) (l : List α) (h : ∀ a ∈ l, ∀ ρ, Inv ρ → R (lcTurn asg test elt (emb a)) ρ w fun y ρ' w' => y = some (f a) ∧ Inv (wipeE ρ' vs) ∧ w' = w) (q : ∀ ρ, Inv ρ → Q (l.map f) ρ w) (h0 : Inv ρ) : R (lcL vs asg test elt (l.map emb)) ρ w Q := by
  have key : ∀ (l : List α) (ρ : Env), (∀ a ∈ l, ∀ ρ, Inv ρ → R (lcTurn asg test elt (emb a)) ρ w fun y ρ' w' => y = some (f a) ∧ Inv (wipeE ρ' vs) ∧ w' = w) → Inv ρ → ∃ ρ', Inv ρ' ∧ lcL vs asg test elt (l.map emb) ρ w = some (l.map f, ρ', w) := by
    intro l
    induction l with
    | nil => intro ρ _ h0; exact ⟨ρ, h0, rfl⟩
    | cons a l ih =>
      intro ρ h h0
      obtain ⟨y, ρ1, w1, e1, rfl, e2, rfl⟩ := h a List.mem_cons_self ρ h0
      obtain ⟨ρ2, h2, e3⟩ := ih _ (fun d' h' => h d' (List.mem_cons_of_mem _ h')) e2
      refine ⟨ρ2, h2, ?_⟩
      rw [List.map_cons]
      unfold lcL bindM
      rw [e1]
      simp only [wipeM, e3, pureM, Option.toList_some, List.singleton_append, List.map_cons]
  obtain ⟨ρ', h', e⟩ := key l ρ h h0
  exact ⟨_, _, _, e, q _ h'⟩
theorem R_lc2MapI {vs : List Nat} {turn : D → M (List D)} {Q : List D → Env → W → Prop} (Inv : Env → Prop) (emb : α → D) (f : α → List D) (l : List α) (h : ∀ a ∈ l, ∀ ρ, Inv ρ → R (turn (emb a)) ρ w fun ys ρ' w' => ys = f a ∧ Inv (wipeE ρ' vs) ∧ w' = w) (q : ∀ ρ, Inv ρ → Q (l.flatMap f) ρ w) (h0 : Inv ρ) : R (lc2L vs turn (l.map emb)) ρ w Q := by
  have key : ∀ (l : List α) (ρ : Env), (∀ a ∈ l, ∀ ρ, Inv ρ → R (turn (emb a)) ρ w fun ys ρ' w' => ys = f a ∧ Inv (wipeE ρ' vs) ∧ w' = w) → Inv ρ → ∃ ρ', Inv ρ' ∧ lc2L vs turn (l.map emb) ρ w = some (l.flatMap f, ρ', w) := by
    intro l
    induction l with
    | nil => intro ρ _ h0; exact ⟨ρ, h0, rfl⟩
    | cons a l ih =>
      intro ρ h h0
      obtain ⟨y, ρ1, w1, e1, rfl, e2, rfl⟩ := h a List.mem_cons_self ρ h0
      obtain ⟨ρ2, h2, e3⟩ := ih _ (fun d' h' => h d' (List.mem_cons_of_mem _ h')) e2
      refine ⟨ρ2, h2, ?_⟩
      rw [List.map_cons]
      unfold lc2L bindM
      rw [e1]
      simp only [wipeM, e3, pureM, List.flatMap_cons]
  obtain ⟨ρ', h', e⟩ := key l ρ h h0
  exact ⟨_, _, _, e, q _ h'⟩
theorem R_keysOwn {i : Nat} {ps : List (D × D)} {Q : List D → Env → W → Prop} (h : ρ[i]? = some (some (.own (.dit ps)))) : R (keysM (fzM (varM i))) ρ w Q ↔ Q (ps.map (·.1)) (ρ.set i (some (.val (.fdit ps)))) w := R_some (by
  unfold keysM fzM bindM varM
  simp [h])
end
end FD

end sec_EV6
section sec_T2
set_option maxRecDepth 100000
set_option maxHeartbeats 5000000
/-! T2: groups of a table. -/
namespace KL
open PySem L2 FD
open ST (Up up_eq setN mem_setN up_setN)
local instance tt2 : Tabl := ⟨[]⟩
abbrev natsD (l : List Nat) : D := .lst (l.map fun (i : Nat) => D.int (i : Int))
theorem grpF_succ (f : Nat → List Int) (n : Nat) : grpF f (n + 1) = putL (grpF f n) (f n) ((lookL (grpF f n) (f n)).getD [] ++ [n]) := by
  unfold grpF
  rw [List.range_succ, List.foldl_append]
  rfl
theorem grpF_len (f : Nat → List Int) (n : Nat) : (grpF f n).length ≤ n := by
  rw [grpF_eq, List.length_map]
  exact Nat.le_trans (List.length_filter_le _ _) (by simp)
theorem grpF_D (f : Nat → List Int) (n : Nat) : ((grpF f n).map (dE natsD)).map (·.2) = (grps f n).map natsD := by
  rw [← grpF_vals, List.map_map, List.map_map]
  rfl
theorem look_len (f : Nat → List Int) (n : Nat) (x : List Int) : ((lookL (grpF f n) x).getD []).length ≤ n := by
  cases q : lookL (grpF f n) x with
  | none => simp
  | some v =>
    unfold lookL at q
    rw [Option.map_eq_some_iff] at q
    obtain ⟨p, h, rfl⟩ := q
    have m := List.mem_of_find?_eq_some h
    rw [grpF_eq] at m
    obtain ⟨i, hi, rfl⟩ := List.mem_map.mp m
    show (cls f n i).length ≤ n
    exact Nat.le_trans (List.length_filter_le _ _) (by simp)
theorem groups_eq {cs l : List Nat} {rows : List Row} {w : W} (hC : Col cs) (hl : Set_ cs l) (hr : ∀ r ∈ rows, r.Ok cs) (hn : rows.length ≤ 10000) : D_Table_groups [tab cs rows, S l] w = some (.fr (.lst ((grps (nmR cs l rows) rows.length).map natsD)), w) := by
  refine D_eq ?_
  have hc := hC.len
  have h1 := hl.len hC
  have ns := need_set_eq (cs := cs) (a := l) (w := w) (by omega) (by omega) (hl.up hC) (fun c hc => hl.subset hc)
  simp [d_Table_groups, startE, R_var, tfld_c, tfld_r, ns, R_liftNg, peek, peeks, lenD]
  rw [R_range (n := rows.length) rfl (by omega)]
  obtain ⟨J, hJ⟩ : ∃ J : Nat → FD.Env → W → Prop, ∀ k ρ w', J k ρ w' ↔ (w' = w ∧ ∃ x3 x4, ρ = [some (.val (tab cs rows)), some (.val (S l)), some (.own (.dit ((grpF (nmR cs l rows) k).map (dE natsD)))), x3, x4]) := ⟨_, fun _ _ _ => Iff.rfl⟩
  refine R_forRange J rows.length ?_ ?_ _ _ ((hJ _ _ _).mpr ⟨rfl, _, _, rfl⟩)
  · intro k ρ w' hk h
    obtain ⟨rfl, x3, x4, rfl⟩ := (hJ _ _ _).mp h
    have ok := (hr rows[k] (List.getElem_mem hk)).len
    have na := name_at_eq (cs := cs) (l := l) (rows := rows) (w := w') (by omega) hk (by omega)
    simp [R_var, na]
    refine R_dput ?_
    have vl : ∀ z, (match pairsD (.dit ((grpF (nmR cs l rows) k).map (dE natsD))) with
      | some ps => (match keyT (nD (nmR cs l rows k)) with | some ks => some (RV.sh ((valT ps ks).getD z)) | none => none)
      | none => none) = some (.sh (((lookL (grpF (nmR cs l rows) k) (nmR cs l rows k)).map natsD).getD z)) := fun z => by
      simp only [pairsD, keyT_n, valT_n]
    have e0 : ((lookL (grpF (nmR cs l rows) k) (nmR cs l rows k)).map natsD).getD (.lst []) = natsD ((lookL (grpF (nmR cs l rows) k) (nmR cs l rows k)).getD []) := by
      cases lookL (grpF (nmR cs l rows) k) (nmR cs l rows k) <;> rfl
    have hz := look_len (nmR cs l rows) k (nmR cs l rows k)
    have e1 : addD (natsD ((lookL (grpF (nmR cs l rows) k) (nmR cs l rows k)).getD [])) (.lst [.int k]) = some (.fr (natsD ((lookL (grpF (nmR cs l rows) k) (nmR cs l rows k)).getD [] ++ [k]))) := by
      simp [addD]
      omega
    simp [R_var, R_own, peek, slotD, pairsD, R_lift2g, keyT_n, valT_n, e0, e1, ownT, -List.map_append]
    refine ⟨by have := grpF_len (nmR cs l rows) k; omega, (hJ _ _ _).mpr ⟨rfl, some (.val (.int k)), some (.val (nD (nmR cs l rows k))), by rw [grpF_succ, ← putT_n]⟩⟩
  · intro ρ w' h
    obtain ⟨rfl, x3, x4, rfl⟩ := (hJ _ _ _).mp h
    have e := grpF_D (nmR cs l rows) rows.length
    simp only [List.map_map] at e
    simp [R_own, peek, slotD, pairsD, outR]
    simpa using e
end KL

end sec_T2
section sec_T3
set_option maxRecDepth 100000
set_option maxHeartbeats 5000000
/-! T3: the dependences that a table keeps. -/
namespace KL
open PySem L2 FD
open ST (Up up_eq setN mem_setN up_setN)
local instance tt3 : Tabl := ⟨[]⟩
theorem no_groups {cs : List Nat} {rows : List Row} : List.lookup ("groups" : Str) (tabF cs rows) = none := by
  have n1 : (("groups" : Str) == ("own_columns" : Str)) = false := by decide +kernel
  have n2 : (("groups" : Str) == ("own_rows" : Str)) = false := by decide +kernel
  simp [List.lookup_cons, n1, n2]
theorem no_keeps {cs : List Nat} {rows : List Row} : List.lookup ("keeps" : Str) (tabF cs rows) = none := by
  have n1 : (("keeps" : Str) == ("own_columns" : Str)) = false := by decide +kernel
  have n2 : (("keeps" : Str) == ("own_rows" : Str)) = false := by decide +kernel
  simp [List.lookup_cons, n1, n2]
theorem grps_lt {f : Nat → List Int} {n : Nat} {g : List Nat} (h : g ∈ grps f n) : g.length ≤ n ∧ ∀ a ∈ g, a < n := by
  obtain ⟨i, hi, rfl⟩ := List.mem_map.mp h
  exact ⟨Nat.le_trans (List.length_filter_le _ _) (by simp), fun a ha => (mem_cls.mp ha).1⟩
open Classical in
theorem keeps_eq {cs lo : List Nat} {c : Nat} {rows : List Row} {w : W} (hC : Col cs) (hp : Dep cs (lo, c)) (hr : ∀ r ∈ rows, r.Ok cs) (hn : rows.length ≤ 10000) : D_Table_keeps [tab cs rows, S lo, S [c]] w = some (.sh (.bl (decide (Keeps cs rows (lo, c)))), w) := by
  refine D_eq ?_
  have hc := hC.len
  have ge := groups_eq (w := w) hC hp.1 hr hn
  have kg : Keeps cs rows (lo, c) ↔ ∀ l ∈ grps (nmR cs lo rows) rows.length, ∀ a ∈ l, ∀ b ∈ l, nmR cs [c] rows a = nmR cs [c] rows b := kept_grps
  simp [d_Table_keeps, startE, R_var, R_self, no_groups, ge, iterD]
  obtain ⟨J, hJ⟩ : ∃ J : Nat → FD.Env → W → Prop, ∀ k ρ w', J k ρ w' ↔ (w' = w ∧ (∀ l ∈ (grps (nmR cs lo rows) rows.length).take k, ∀ a ∈ l, ∀ b ∈ l, nmR cs [c] rows a = nmR cs [c] rows b) ∧ ∃ x3, ρ = [some (.val (tab cs rows)), some (.val (S lo)), some (.val (S [c])), x3, none]) := ⟨_, fun _ _ _ => Iff.rfl⟩
  refine R_forIdx natsD (grps (nmR cs lo rows) rows.length) J ?_ ?_ _ _ ((hJ _ _ _).mpr ⟨rfl, by simp, _, rfl⟩)
  · intro k ρ w' hk h
    obtain ⟨rfl, hall, x3, rfl⟩ := (hJ _ _ _).mp h
    obtain ⟨gl, gm⟩ := grps_lt (List.getElem_mem hk)
    have gm0 : (grps (nmR cs lo rows) rows.length)[k] ∈ grps (nmR cs lo rows) rows.length := List.getElem_mem hk
    generalize hg : (grps (nmR cs lo rows) rows.length)[k] = g at gl gm gm0
    simp [R_var, R_dcM, iterD]
    refine ⟨⟨rfl, by omega⟩, R_dcLn (fun i : Nat => D.int (i : Int)) D.bl (nmR cs [c] rows) (fun _ => true) g (fun a ha acc => ?_) ?_⟩
    · have hlt := gm a ha
      have ok := (hr rows[a] (List.getElem_mem hlt)).len
      have na := name_at_eq (cs := cs) (l := [c]) (rows := rows) (w := w') (by omega) (gm a ha) (by omega)
      simp [R_var, wipeE, na, peek, keyT_n]
    · have el : (List.foldl (fun es a => putL es (nmR cs [c] rows a) true) [] g).length = (ddp [] (g.map (nmR cs [c] rows))).length := by
        have := foldl_keys (nmR cs [c] rows) (fun _ _ => true) g []
        rw [← List.length_map (f := (·.1)), this]
        rfl
      have one := ddp_one (ks := g.map (nmR cs [c] rows))
      simp [R_liftNg, peek, peeks, lenTD, intD, i0, el, restE, wipeE]
      by_cases h1 : (1 : Int) < ((ddp [] (g.map (nmR cs [c] rows))).length : Int)
      · have nk : ¬ Keeps cs rows (lo, c) := fun z => by
          have q := kg.mp z g gm0
          have := one.mpr (by simpa using q)
          omega
        simp [h1, outR, nk]
      · simp [h1]
        refine ⟨by omega, (hJ _ _ _).mpr ⟨rfl, fun l hl => ?_, _, rfl⟩⟩
        rw [List.take_succ] at hl
        rcases List.mem_append.mp hl with hl | hl
        · exact hall l hl
        · rw [List.getElem?_eq_getElem hk, hg] at hl
          have e : l = g := by simpa using hl
          subst e
          have := one.mp (by omega)
          intro a ha b hb
          exact this _ (List.mem_map.mpr ⟨a, ha, rfl⟩) _ (List.mem_map.mpr ⟨b, hb, rfl⟩)
  · intro ρ w' h
    obtain ⟨rfl, hall, x3, rfl⟩ := (hJ _ _ _).mp h
    rw [List.take_length] at hall
    simp [outR, kg.mpr hall]
theorem no_broken {cs : List Nat} {rows : List Row} : List.lookup ("broken" : Str) (tabF cs rows) = none := by
  have n1 : (("broken" : Str) == ("own_columns" : Str)) = false := by decide +kernel
  have n2 : (("broken" : Str) == ("own_rows" : Str)) = false := by decide +kernel
  simp [List.lookup_cons, n1, n2]
theorem Scheme_columns_eq {cs : List Nat} {dd : D} {w : W} : D_Scheme_columns [schD cs dd] w = some (.sh (S cs), w) := by
  refine D_eq ?_
  simp [d_Scheme_columns, startE, R_var, fld_c, outR]
theorem Scheme_dependences_eq {cs : List Nat} {ds : List (List Nat × Nat)} {w : W} : D_Scheme_dependences [sch cs ds] w = some (.sh (.tup (ds.map depD)), w) := by
  refine D_eq ?_
  simp [d_Scheme_dependences, startE, R_var, fld_d, outR]
/-- None or a number -/
def optI : Option Nat → D
  | none => .non
  | some i => .int i
theorem brk_step {cs : List Nat} {rows : List Row} {ds : List (List Nat × Nat)} {k : Nat} (hk : k < ds.length) (h : ∀ p ∈ ds.take k, Keeps cs rows p) (n : ¬ Keeps cs rows ds[k]) : brk cs rows ds = some k := by
  unfold brk
  rw [List.findIdx?_eq_some_iff_getElem]
  refine ⟨hk, by simpa using n, fun j hj => ?_⟩
  have : ds[j] ∈ ds.take k := by
    rw [List.mem_take_iff_getElem]
    exact ⟨j, by omega, rfl⟩
  simpa using h _ this
theorem broken_eq {cs : List Nat} {ds : List (List Nat × Nat)} {rows : List Row} {w : W} (hC : Col cs) (hd : ∀ p ∈ ds, Dep cs p) (hr : ∀ r ∈ rows, r.Ok cs) (hn : rows.length ≤ 10000) : D_Table_broken [tab cs rows, sch cs ds] w = some (.sh (optI (brk cs rows ds)), w) := by
  refine D_eq ?_
  have e1 := neD_S hC.cp hC.cp
  simp [d_Table_broken, startE, R_var, tfld_c, Scheme_columns_eq, e1, Scheme_dependences_eq, seqD, numD_map]
  obtain ⟨J, hJ⟩ : ∃ J : Nat → FD.Env → W → Prop, ∀ k ρ w', J k ρ w' ↔ (w' = w ∧ (∀ p ∈ ds.take k, Keeps cs rows p) ∧ ∃ x2 x3 x4, ρ = [some (.val (tab cs rows)), some (.val (sch cs ds)), x2, x3, x4]) := ⟨_, fun _ _ _ => Iff.rfl⟩
  refine R_forIdx (fun p : (List Nat × Nat) × Nat => .tup [.int p.2, depD p.1]) (ds.zipIdx 0) J ?_ ?_ _ _ ((hJ _ _ _).mpr ⟨rfl, by simp, _, _, _, rfl⟩)
  · intro k ρ w' hk h
    obtain ⟨rfl, hall, x2, x3, x4, rfl⟩ := (hJ _ _ _).mp h
    have hk' : k < ds.length := by simpa using hk
    have e2 : (ds.zipIdx 0)[k] = (ds[k], k) := by simp
    have ke := keeps_eq (w := w') (lo := ds[k].1) (c := ds[k].2) hC (hd _ (List.getElem_mem hk')) hr hn
    rw [e2]
    by_cases q : Keeps cs rows ds[k]
    · have q' : Keeps cs rows (ds[k].1, ds[k].2) := q
      simp [R_var, R_self, no_keeps, ke, q']
      refine (hJ _ _ _).mpr ⟨rfl, fun p hp => ?_, _, _, _, rfl⟩
      rw [List.take_succ, List.getElem?_eq_getElem hk'] at hp
      rcases List.mem_append.mp hp with hp | hp
      · exact hall p hp
      · have : p = ds[k] := by simpa using hp
        rw [this]
        exact q
    · have q' : ¬ Keeps cs rows (ds[k].1, ds[k].2) := q
      simp [R_var, R_self, no_keeps, ke, q', outR, brk_step hk' hall q, optI]
  · intro ρ w' h
    obtain ⟨rfl, hall, x2, x3, x4, rfl⟩ := (hJ _ _ _).mp h
    have e : brk cs rows ds = none := brk_none.mpr (by
      rw [List.length_zipIdx, List.take_length] at hall
      exact hall)
    simp [outR, e, optI]
end KL

end sec_T3
section sec_T4
set_option maxRecDepth 100000
set_option maxHeartbeats 5000000
/-! T4: tables made. -/
namespace KL
open PySem L2 FD
open ST (Up up_eq setN mem_setN up_setN)
local instance tt4 : Tabl := ⟨[]⟩
theorem lenD_tup (ds : List D) : lenD [.tup ds] = some (.sh (.int ds.length)) := rfl
theorem lenD_lst (ds : List D) : lenD [.lst ds] = some (.sh (.int ds.length)) := rfl
theorem is_number_int {i : Int} {w : W} : D_is_number [.int i] w = some (.sh (.bl true), w) := by
  refine D_eq ?_
  simp [d_is_number, startE, R_var, isiD, tyB, bt_int, bt_bool, outR]
theorem is_row_eq {cs : List Nat} {r : Row} {w : W} (hc : cs.length ≤ 1000) (h : r.Ok cs) : D_is_row [S cs, rowD r] w = some (.sh (.bl true), w) := by
  refine D_eq ?_
  have hl := h.len
  have a0 : L2.atI [nD r.keys, D.int r.x, D.int r.v, D.int r.w] 0 = some (nD r.keys) := rfl
  have a1 : L2.atI [nD r.keys, D.int r.x, D.int r.v, D.int r.w] 1 = some (D.int r.x) := rfl
  unfold d_is_row
  refine R_then (fun ρ' w' => w' = w ∧ ρ' = [some (.val (S cs)), some (.val (rowD r)), none, none]) ?_ ?_
  · simp [startE, R_var, isiD, tyB, bt_tuple, R_liftNg, peek, peeks, lenD, neD_int, ixD, a0]
  intro ρ1 w1 h1
  obtain ⟨e1, rfl⟩ := h1
  refine R_then (fun ρ' w' => w' = w ∧ ρ' = [some (.val (S cs)), some (.val (rowD r)), none, none]) ?_ ?_
  · simp [R_var, R_liftNg, peek, peeks, lenD_tup, ixD, a0, lenD_S (show cs.length ≤ 1000000 by omega), neD_int, hl, R_lcM, iterD]
    refine ⟨⟨rfl, by omega⟩, R_lcMap D.int (fun _ => .bl true) r.keys (fun k hk => ?_) ?_⟩
    · have := h.pos k hk
      simp [R_var, is_number_int, intD, i0, this, wipeE]
    · simp [R_liftNg, peek, peeks, allD_map, restE, wipeE, e1]
  intro ρ2 w2 h2
  obtain ⟨rfl, rfl⟩ := h2
  have hv := h.v1
  have hw := h.w1
  have es : slD (rowD r) (some 2) none = some (.sh (.tup ([r.v, r.w].map D.int))) := rfl
  simp only [R_bind, R_andM, R_bool]
  simp [R_var, ixD, a1, is_number_int, es, R_lcM, iterD, -List.map_cons]
  refine ⟨rfl, R_lcMap D.int (fun _ => .bl true) [r.v, r.w] (fun k hk => ?_) ?_⟩
  · have : 1 ≤ k := by
      simp at hk
      omega
    simp [R_var, is_number_int, intD, i0, this, wipeE]
  · have ea : allD [.lst [.bl true, .bl true]] = some (.sh (.bl true)) := rfl
    simp [R_liftNg, peek, peeks, ea, restE, wipeE, outR]
theorem need_rows_eqD {cs : List Nat} {rows : List Row} {d : D} {w : W} (e1 : isiD bt_list_tuple ic_list_tuple d = some true) (e2 : seqD d = some (rows.map rowD)) (hC : Col cs) (hr : ∀ r ∈ rows, r.Ok cs) : D_need_rows [S cs, d] w = some (.sh .non, w) := by
  refine D_eq ?_
  have hc := hC.len
  simp [d_need_rows, startE, R_var, e1, R_enumM, e2, numD_map]
  obtain ⟨J, hJ⟩ : ∃ J : List (Row × Nat) → FD.Env → W → Prop, ∀ rest ρ w', J rest ρ w' ↔ (w' = w ∧ (∀ p ∈ rest, p.1 ∈ rows) ∧ ∃ x2 x3, ρ = [some (.val (S cs)), some (.val d), x2, x3]) := ⟨_, fun _ _ _ => Iff.rfl⟩
  refine R_forLm (fun p : Row × Nat => .tup [.int p.2, rowD p.1]) J ?_ ?_ _ _ _ ((hJ _ _ _).mpr ⟨rfl, fun p hp => ?_, _, _, rfl⟩)
  · rintro ⟨p, i⟩ rest ρ w' h
    obtain ⟨rfl, hrr, x2, x3, rfl⟩ := (hJ _ _ _).mp h
    have hm := hrr _ List.mem_cons_self
    simp [R_var, is_row_eq (w := w') (show cs.length ≤ 1000 by omega) (hr p hm)]
    exact (hJ _ _ _).mpr ⟨rfl, fun q hq => hrr q (List.mem_cons_of_mem _ hq), _, _, rfl⟩
  · intro ρ w' h
    obtain ⟨rfl, _, x2, x3, rfl⟩ := (hJ _ _ _).mp h
    simp
  · obtain ⟨p, i⟩ := p
    obtain ⟨h1, h2, h3⟩ := List.mem_zipIdx hp
    rw [h3]
    exact List.getElem_mem _
theorem Table_eq {cs : List Nat} {rows : List Row} {d : D} {w : W} (hC : Col cs) (hr : ∀ r ∈ rows, r.Ok cs) (h : d = .tup (rows.map rowD) ∨ d = .lst (rows.map rowD)) : I_Table [S cs, d] w = some (tabF cs rows, w) := by
  have e1 : isiD bt_list_tuple ic_list_tuple d = some true := by rcases h with rfl | rfl <;> simp [isiD, tyB, bt_list_tuple]
  have e2 : seqD d = some (rows.map rowD) := by rcases h with rfl | rfl <;> rfl
  have e : tupD [d] = some (.sh (.tup (rows.map rowD))) := by rcases h with rfl | rfl <;> rfl
  have : R (d_Table_init []) (none :: startE 2 [S cs, d]) w fun gs ρ' w' => gs = tabF cs rows ∧ w' = w := by
    simp [d_Table_init, startE, R_var, need_columns_eq hC, need_rows_eqD e1 e2 hC hr, R_liftN, peeks, peek, e, putD]
    decide +kernel
  obtain ⟨gs, ρ', w', e, rfl, rfl⟩ := this
  simp [I_Table, denI, e]
end KL

end sec_T4
section sec_L1
set_option maxRecDepth 100000
set_option maxHeartbeats 5000000
/-! L1: the law's own names of groups. -/
namespace KL
open PySem L2 FD
open ST (Up up_eq setN mem_setN up_setN)
local instance tt5 : Tabl := ⟨[]⟩
theorem index_S {cs : List Nat} {c : Nat} (hC : Col cs) (hc : c ∈ cs) : indexD (st cs) (S [c]) = some (.sh (.int (cs.idxOf c : Nat))) := by
  have key : ∀ cs ∈ subsF [97, 98, 99, 100], ∀ c ∈ cs, (Builtin.Str.occurrences (st cs) (st [c]) 0 (st cs).length 1).head? = some (cs.idxOf c) := by decide +kernel
  have := key cs hC.in c hc
  unfold indexD
  dsimp only
  cases e : Builtin.Str.occurrences (st cs) (st [c]) 0 (st cs).length 1 with
  | nil =>
    rw [e] at this
    cases this
  | cons i r =>
    rw [e] at this
    cases this
    rfl
theorem keysIn_congr {cs l m : List Nat} (h : ∀ c ∈ cs, c ∈ l ↔ c ∈ m) (ks : List Int) : keysIn cs l ks = keysIn cs m ks := by
  unfold keysIn
  congr 1
  apply List.filter_congr
  intro p hp
  rw [decide_eq_decide]
  exact h p.2 (List.of_mem_zip hp).2
theorem pick_keys : ∀ {cs l : List Nat} {ks : List Int}, l.Sublist cs → cs.Nodup → ks.length = cs.length → l.map (fun c => ks.getD (cs.idxOf c) 0) = keysIn cs l ks
  | [], l, ks, hs, _, _ => by
    have : l = [] := by simpa using hs
    subst this
    simp [keysIn]
  | a :: cs, l, [], _, _, h => by cases h
  | a :: cs, l, k :: ks, hs, nd, h => by
    obtain ⟨n1, n2⟩ := List.nodup_cons.mp nd
    have h' : ks.length = cs.length := by simpa using h
    have shift : ∀ t : List Nat, t.Sublist cs → t.map (fun c => (k :: ks).getD ((a :: cs).idxOf c) 0) = t.map (fun c => ks.getD (cs.idxOf c) 0) := fun t ht => by
      apply List.map_congr_left
      intro c hc
      have ne : ¬ a = c := fun z => n1 (z ▸ ht.subset hc)
      have nb : (a == c) = false := by simpa using ne
      rw [List.idxOf_cons, nb]
      simp
    cases hs with
    | cons _ hs =>
      rw [shift l hs, pick_keys hs n2 h']
      have na : a ∉ l := fun z => n1 (hs.subset z)
      unfold keysIn
      simp [na]
    | @cons_cons t _ _ hs =>
      rw [List.map_cons, shift t hs, pick_keys hs n2 h']
      have e : keysIn cs (a :: t) ks = keysIn cs t ks := keysIn_congr (fun c hc => by
        constructor
        · intro z
          rcases List.mem_cons.mp z with z | z
          · exact absurd (z ▸ hc) n1
          · exact z
        · exact fun z => List.mem_cons_of_mem _ z) ks
      rw [← e]
      unfold keysIn
      simp
theorem named_keys {cs l : List Nat} {ks : List Int} (hC : Col cs) (hl : Set_ cs l) (h : ks.length = cs.length) : (l.filter fun c => !decide (c = 114)).map (fun c => ks.getD (cs.idxOf c) 0) = keysIn cs l ks := by
  have n114 : 114 ∉ cs := fun z => by
    have := hC.mem 114 z
    simp at this
  have sub : (l.filter fun c => !decide (c = 114)).Sublist cs := by
    have := hl.filter fun c => !decide (c = 114)
    rw [List.filter_append] at this
    have e : cs.filter (fun c => !decide (c = 114)) = cs := List.filter_eq_self.mpr fun c hc => by
      have : c ≠ 114 := fun z => n114 (z ▸ hc)
      simpa using this
    rw [e] at this
    simpa using this
  rw [pick_keys sub (hC.upc.imp fun h => Nat.ne_of_lt h) h]
  refine keysIn_congr (fun c hc => ?_) ks
  have : c ≠ 114 := fun z => n114 (z ▸ hc)
  simp [this]
theorem law_named_eq {cs l : List Nat} {ds : List (List Nat × Nat)} {rows : List Row} {i : Nat} {w : W} {sq : List D → D} (hsq : sq = D.lst ∨ sq = D.tup) (hC : Col cs) (hl : Set_ cs l) (hr : ∀ r ∈ rows, r.Ok cs) (hi : i < rows.length) : D_law_named [planD cs ds, sq (rows.map rowD), S l, .int i] w = some (.sh (nD (nmR cs l rows i)), w) := by
  refine D_eq ?_
  have hc := hC.len
  have h1 := hl.len hC
  have ok := (hr rows[i] (List.getElem_mem hi)).len
  have a1 : ixD (sq (rows.map rowD)) (.int i) = some (.sh (rowD rows[i])) := by
    rcases hsq with rfl | rfl <;> simp only [ixD, atI_map rowD rows i hi] <;> rfl
  have a0 : L2.atI [nD rows[i].keys, D.int rows[i].x, D.int rows[i].v, D.int rows[i].w] 0 = some (nD rows[i].keys) := rfl
  have p0 : L2.atI [S cs, D.tup (ds.map depD)] 0 = some (S cs) := rfl
  unfold d_law_named
  refine R_then (fun ρ' w' => w' = w ∧ ρ' = [some (.val (planD cs ds)), some (.val (sq (rows.map rowD))), some (.val (S l)), some (.val (.int i)), some (.val (nD rows[i].keys)), none, none]) ?_ ?_
  · simp [startE, R_var, a1]
    simp [ixD, a0]
  intro ρ1 w1 hh
  obtain ⟨rfl, rfl⟩ := hh
  refine R_then (fun ρ' w' => w' = w1 ∧ ρ' = [some (.val (planD cs ds)), some (.val (sq (rows.map rowD))), some (.val (S l)), some (.val (.int i)), some (.val (nD rows[i].keys)), some (.own (.lst ((keysIn cs l rows[i].keys).map D.int))), none]) ?_ ?_
  · simp [R_var, R_lcM, iterD_S]
    refine ⟨⟨rfl, by omega⟩, R_lcFil (fun c => S [c]) (fun c => !decide (c = 114)) (fun c => .int (rows[i].keys.getD (cs.idxOf c) 0)) l (fun c hc' => ?_) ?_⟩
    · have cp1 : CpOk [c] := (one_set (hl.subset hc')).cp hC
      have e := neD_S (l := [c]) (m := [114]) cp1 (by intro x hx; simp at hx; omega)
      by_cases q : c = 114
      · subst q
        simp at e
        simp [R_var, lit_r, e, wipeE]
      · have hcs : c ∈ cs := by
          rcases List.mem_append.mp (hl.subset hc') with z | z
          · exact z
          · exact absurd (List.mem_singleton.mp z) q
        have hlt : cs.idxOf c < rows[i].keys.length := by
          rw [ok]
          exact List.idxOf_lt_length_of_mem hcs
        have a2 := atI_map D.int rows[i].keys (cs.idxOf c) hlt
        simp [q] at e
        simp [R_var, lit_r, e, wipeE, q, ixD, p0, index_S hC hcs, a2, hlt]
    · have := named_keys (ks := rows[i].keys) hC hl ok
      rw [← this]
      simp [restE, wipeE]
  intro ρ2 w2 hh
  obtain ⟨rfl, rfl⟩ := hh
  have hkl : (keysIn cs l rows[i].keys).length ≤ 1000 := by
    unfold keysIn
    rw [List.length_map]
    refine Nat.le_trans (List.length_filter_le _ _) ?_
    simp
    omega
  have e : nmR cs l rows i = nm cs l rows[i].keys i := by simp [nmR, hi]
  rw [e]
  by_cases h : 114 ∈ l
  · have e2 : addD (.lst ((keysIn cs l rows[i].keys).map D.int)) (.lst [.int i]) = some (.fr (.lst ((keysIn cs l rows[i].keys ++ [(i : Int)]).map D.int))) := by
      simp [addD]
      omega
    have e3 : repD (.lst [.int i]) (.int 1) = some (.fr (.lst [.int i])) := rfl
    simp [R_var, R_own, lit_r, inS_S, h, R_lift2g, R_liftNg, peek, peeks, slotD, intFD, e3, e2, tupD, outR, nm, -List.map_append]
  · have e2 : addD (.lst ((keysIn cs l rows[i].keys).map D.int)) (.lst []) = some (.fr (.lst ((keysIn cs l rows[i].keys).map D.int))) := by
      simp [addD]
      omega
    have e3 : repD (.lst [.int i]) (.int 0) = some (.fr (.lst [])) := rfl
    simp [R_var, R_own, lit_r, inS_S, h, R_lift2g, R_liftNg, peek, peeks, slotD, intFD, e3, e2, tupD, outR, nm]
end KL

end sec_L1
section sec_L2
set_option maxRecDepth 100000
set_option maxHeartbeats 5000000
/-! L2: the law's own look at dependences. -/
namespace KL
open PySem L2 FD
open ST (Up up_eq setN mem_setN up_setN)
local instance tt6 : Tabl := ⟨[]⟩
theorem NB_n (a : List Int) : NB 64 (nD a) := fun d hd => by
  obtain ⟨i, _, rfl⟩ := List.mem_map.mp hd
  exact NB_int
theorem nD_inj {a b : List Int} : nD a = nD b ↔ a = b := by
  constructor
  · intro h
    injection h with h
    exact (List.map_inj_right fun x y e => by cases e; rfl).mp h
  · intro h; rw [h]
theorem neD_n (a b : List Int) : neD (nD a) (nD b) = some (.sh (.bl (!decide (a = b)))) := by
  rw [neD_NB (NB_n a) (NB_n b)]
  congr 4
  rw [decide_eq_decide]
  exact nD_inj
theorem law_broken_in {cs lo : List Nat} {c : Nat} {ds : List (List Nat × Nat)} {rows : List Row} {w : W} {at_ : D} (hC : Col cs) (hp : Dep cs (lo, c)) (hr : ∀ r ∈ rows, r.Ok cs) (hn : rows.length ≤ 10000) {Q : Fl → FD.Env → W → Prop}
    (q1 : ∀ x4 x5 x6 x7, Keeps cs rows (lo, c) → Q .nx [some (.val (planD cs ds)), some (.val (.lst (rows.map rowD))), some (.val at_), some (.val (depD (lo, c))), x4, x5, x6, x7] w)
    (q2 : ∀ x4 x5 x6 x7, ¬ Keeps cs rows (lo, c) → Q (.ret (.sh at_)) [some (.val (planD cs ds)), some (.val (.lst (rows.map rowD))), some (.val at_), some (.val (depD (lo, c))), x4, x5, x6, x7] w) {x5 x6 x7 : Option Slot} :
    R (forL (gNameM 5)
   (seqM (parSt [6, 7] (pend1 (callM D_law_named [] (consA (varM 0) (consA (varM 1) (consA (op2M ixD (varM 3) (pureM (.sh (.int 0)))) (consA (varM 5) (pureM [])))))) (pend1 (callM D_law_named [] (consA (varM 0) (consA (varM 1) (consA (op2M ixD (varM 3) (pureM (.sh (.int 1)))) (consA (varM 5) (pureM [])))))) (pureM []))))
  (seqM (ifM (boolM (op2M neD (dgetM (dictM (varM 4)) (varM 6) (varM 7)) (varM 7))) (retM (varM 2)) (pureM .nx))
  (dputM 4 (varM 7) (varM 6)))) ((List.range rows.length).map fun (i : Nat) => D.int (i : Int))) [some (.val (planD cs ds)), some (.val (.lst (rows.map rowD))), some (.val at_), some (.val (depD (lo, c))), some (.own (.dit [])), x5, x6, x7] w Q := by
  obtain ⟨J, hJ⟩ : ∃ J : Nat → FD.Env → W → Prop, ∀ k ρ w', J k ρ w' ↔ (w' = w ∧ ∃ (seen : List (List Int × List Int)) (x5 x6 x7 : Option Slot), ρ = [some (.val (planD cs ds)), some (.val (.lst (rows.map rowD))), some (.val at_), some (.val (depD (lo, c))), some (.own (.dit (seen.map (dE nD)))), x5, x6, x7] ∧ KeptN (nmR cs lo rows) (nmR cs [c] rows) k ∧ seen.length ≤ k ∧ ∀ x v, lookL seen x = some v ↔ ∃ i, i < k ∧ nmR cs lo rows i = x ∧ nmR cs [c] rows i = v) := ⟨_, fun _ _ _ => Iff.rfl⟩
  refine R_forRange J rows.length ?_ ?_ _ _ ((hJ _ _ _).mpr ⟨rfl, [], _, _, _, rfl, fun i j hi => absurd hi (by omega), by simp, fun x v => ?_⟩)
  · intro k ρ w' hk h
    obtain ⟨rfl, seen, x5, x6, x7, rfl, hkept, hsl, hlook⟩ := (hJ _ _ _).mp h
    have n1 := law_named_eq (ds := ds) (w := w') (.inl rfl) hC hp.1 hr hk
    have n2 := law_named_eq (ds := ds) (w := w') (.inl rfl) hC (one_set hp.2) hr hk
    have a0 : L2.atI [S lo, S [c]] 0 = some (S lo) := rfl
    have a1 : L2.atI [S lo, S [c]] 1 = some (S [c]) := rfl
    have vl : ((valT (seen.map (dE nD)) ((nmR cs lo rows k).map Sum.inl)).getD (nD (nmR cs [c] rows k))) = nD ((lookL seen (nmR cs lo rows k)).getD (nmR cs [c] rows k)) := by
      rw [valT_n]
      cases lookL seen (nmR cs lo rows k) <;> rfl
    simp [R_var, R_own, ixD, a0, a1, n1, n2, peek, slotD, pairsD, R_lift2g, keyT_n, vl, neD_n]
    by_cases e : (lookL seen (nmR cs lo rows k)).getD (nmR cs [c] rows k) = nmR cs [c] rows k
    · simp [e, R_var]
      refine R_dput ?_
      simp [R_var, ownT, peek, keyT_n]
      refine ⟨by omega, (hJ _ _ _).mpr ⟨rfl, putL seen (nmR cs lo rows k) (nmR cs [c] rows k), some (.val (.int k)), some (.val (nD (nmR cs lo rows k))), some (.val (nD (nmR cs [c] rows k))), by rw [putT_n], ?_, ?_, ?_⟩⟩
      · have old : ∀ i, i < k → nmR cs lo rows i = nmR cs lo rows k → nmR cs [c] rows i = nmR cs [c] rows k := fun i hi z => by
          have := (hlook (nmR cs lo rows k) (nmR cs [c] rows i)).mpr ⟨i, hi, z, rfl⟩
          rw [this] at e
          exact e
        intro i j hi hj z
        rcases Nat.lt_or_ge i k with hi' | hi'
        · rcases Nat.lt_or_ge j k with hj' | hj'
          · exact hkept i j hi' hj' z
          · have : j = k := by omega
            subst this
            exact old i hi' z
        · have : i = k := by omega
          subst this
          rcases Nat.lt_or_ge j i with hj' | hj'
          · exact (old j hj' z.symm).symm
          · have : j = i := by omega
            rw [this]
      · have := congrArg List.length (putL_keys seen (nmR cs lo rows k) (nmR cs [c] rows k))
        rw [List.length_map] at this
        rw [this]
        split <;> simp <;> omega
      · intro x v
        rw [look_put]
        by_cases z : x = nmR cs lo rows k
        · rw [if_pos z]
          constructor
          · intro q
            cases q
            exact ⟨k, by omega, z.symm, rfl⟩
          · rintro ⟨i, hi, h1, h2⟩
            rcases Nat.lt_or_ge i k with hi' | hi'
            · have := (hlook (nmR cs lo rows k) v).mpr ⟨i, hi', h1.trans z, h2⟩
              rw [this] at e
              have e' : v = nmR cs [c] rows k := e
              rw [e']
            · have : i = k := by omega
              subst this
              rw [h2]
        · rw [if_neg z, hlook]
          constructor
          · rintro ⟨i, hi, h1, h2⟩
            exact ⟨i, by omega, h1, h2⟩
          · rintro ⟨i, hi, h1, h2⟩
            rcases Nat.lt_or_ge i k with hi' | hi'
            · exact ⟨i, hi', h1, h2⟩
            · have : i = k := by omega
              subst this
              exact absurd h1.symm z
    · simp [e, R_var]
      refine q2 _ _ _ _ fun z => ?_
      cases ql : lookL seen (nmR cs lo rows k) with
      | none =>
        rw [ql] at e
        exact e rfl
      | some v =>
        rw [ql] at e
        obtain ⟨i, hi, h1, h2⟩ := (hlook _ _).mp ql
        have := z i k (by omega) hk h1
        exact e (by rw [← this, h2]; rfl)
  · intro ρ w' h
    obtain ⟨rfl, seen, x5, x6, x7, rfl, hkept, hsl, hlook⟩ := (hJ _ _ _).mp h
    exact q1 _ _ _ _ hkept
  · constructor
    · intro q
      cases q
    · rintro ⟨i, hi, _⟩
      omega
theorem law_broken_eq {cs : List Nat} {ds : List (List Nat × Nat)} {rows : List Row} {w : W} (hC : Col cs) (hd : ∀ p ∈ ds, Dep cs p) (hr : ∀ r ∈ rows, r.Ok cs) (hn : rows.length ≤ 10000) : D_law_broken [planD cs ds, .lst (rows.map rowD)] w = some (.sh (optI (brk cs rows ds)), w) := by
  refine D_eq ?_
  have p1 : L2.atI [S cs, D.tup (ds.map depD)] 1 = some (D.tup (ds.map depD)) := rfl
  simp [d_law_broken, startE, R_var, ixD, p1, seqD, numD_map]
  obtain ⟨J, hJ⟩ : ∃ J : Nat → FD.Env → W → Prop, ∀ k ρ w', J k ρ w' ↔ (w' = w ∧ (∀ p ∈ ds.take k, Keeps cs rows p) ∧ ∃ x2 x3 x4 x5 x6 x7, ρ = [some (.val (planD cs ds)), some (.val (.lst (rows.map rowD))), x2, x3, x4, x5, x6, x7]) := ⟨_, fun _ _ _ => Iff.rfl⟩
  refine R_forIdx (fun p : (List Nat × Nat) × Nat => .tup [.int p.2, depD p.1]) (ds.zipIdx 0) J ?_ ?_ _ _ ((hJ _ _ _).mpr ⟨rfl, by simp, _, _, _, _, _, _, rfl⟩)
  · intro k ρ w' hk h
    obtain ⟨rfl, hall, x2, x3, x4, x5, x6, x7, rfl⟩ := (hJ _ _ _).mp h
    have hk' : k < ds.length := by simpa using hk
    have e2 : (ds.zipIdx 0)[k] = (ds[k], k) := by simp
    rw [e2]
    simp [R_var, R_liftNg, peek, peeks, lenD]
    rw [R_range (n := rows.length) rfl (by omega)]
    refine law_broken_in (lo := ds[k].1) (c := ds[k].2) hC (hd _ (List.getElem_mem hk')) hr hn (fun x4 x5 x6 x7 kp => ?_) (fun x4 x5 x6 x7 nk => ?_)
    · refine (hJ _ _ _).mpr ⟨rfl, fun p hp => ?_, _, _, _, _, _, _, rfl⟩
      rw [List.take_succ, List.getElem?_eq_getElem hk'] at hp
      rcases List.mem_append.mp hp with hp | hp
      · exact hall p hp
      · have : p = ds[k] := by simpa using hp
        rw [this]
        exact kp
    · simp [outR, brk_step hk' hall nk, optI]
  · intro ρ w' h
    obtain ⟨rfl, hall, x2, x3, x4, x5, x6, x7, rfl⟩ := (hJ _ _ _).mp h
    have e : brk cs rows ds = none := brk_none.mpr (by
      rw [List.length_zipIdx, List.take_length] at hall
      exact hall)
    simp [outR, e, optI]
end KL

end sec_L2
section sec_P1
set_option maxRecDepth 100000
set_option maxHeartbeats 5000000
/-! P1: the draws, plainly. -/
namespace KL
open PySem L2 FD

abbrev vi (i : Int) : Option Slot := some (.val (.int i))
abbrev vd : Option Slot := some (.val .draw)
theorem mulD_int {a b : Int} (h : a.natAbs.log2 + b.natAbs.log2 < 1000000) : mulD (.int a) (.int b) = some (.sh (.int (a * b))) := by simp [mulD, h]
theorem inner (t f p : Int) (hp : 0 < p) (hp2 : p < 2 ^ 31) (ht : 0 ≤ t) (ht2 : t < 2 ^ 40) {Q : Fl → FD.Env → W → Prop} {w : W} (hq : ∀ b x, 0 ≤ b → b < 2 ^ 60 → Q .nx [vd, vi t, vi f, vi p, vi b, x] w) :
    ∀ (cs : List Int) (b : Int) (x : Option Slot), (∀ c ∈ cs, 0 ≤ c ∧ c < 2 ^ 31) → 0 ≤ b → b < 2 ^ 60 →
    R (forL (gNameM 5) (setM' 4 (op2M (intD modI) (bM intFD (consA (op2M addD (op2M addD (op2M mulD (varM 4) (pureM (.sh (.int 48271)))) (varM 5)) (varM 1)) (pureM []))) (varM 3))) (cs.map D.int)) [vd, vi t, vi f, vi p, vi b, x] w Q := by
  intro cs b x hcs hb hb2
  refine R_forL (fun ds ρ w' => w' = w ∧ ∃ b x, ∃ cs : List Int, ds = cs.map D.int ∧ (∀ c ∈ cs, 0 ≤ c ∧ c < 2 ^ 31) ∧ 0 ≤ b ∧ b < 2 ^ 60 ∧ ρ = [vd, vi t, vi f, vi p, vi b, x]) ?_ ?_ _ _ _ ⟨rfl, b, x, cs, rfl, hcs, hb, hb2, rfl⟩
  · rintro d ds ρ w' ⟨rfl, b, x, cs, e, hcs, hb, hb2, rfl⟩
    cases cs with
    | nil => cases e
    | cons c cs =>
      cases e
      have l1 := lg hb hb2 (by decide)
      have l2 : (48271 : Int).natAbs.log2 = 15 := by decide
      have hm : mulD (.int b) (.int 48271) = some (.sh (.int (b * 48271))) := mulD_int (by omega)
      simp [R_var, R_liftN, peeks, peek, intFD, intD, modI, hp, hm, addD]
      have h1 := Int.emod_nonneg (b * 48271 + c + t) (by omega : p ≠ 0)
      have h2 := Int.emod_lt_of_pos (b * 48271 + c + t) hp
      exact ⟨_, _, cs, rfl, fun c' h => by have := hcs c' (List.mem_cons_of_mem _ h); omega, h1, by omega, rfl, rfl⟩
  · rintro ρ w' ⟨rfl, b, x, cs, e, _, hb, hb2, rfl⟩
    exact hq b x hb hb2
structure Ok (w : W) : Prop where
  t0 : 0 ≤ w.turn
  t1 : w.turn < 2 ^ 39
  cs : ∀ c ∈ w.cells, 0 ≤ c ∧ c < 2 ^ 31
theorem fdivI_ok {a b : Int} (h : 0 < b) (h2 : b < 2 ^ 100) : fdivI a b = some (.sh (.int (a / b))) := by
  have l := lg (i := b) (n := 100) (by omega) h2 (by decide)
  simp [fdivI, h]
  omega
theorem pow32 (n : Nat) : (2 : Int) ^ (n + 32) = 2 ^ n * 4294967296 := by
  rw [Int.pow_add]
  rfl
theorem mixed (w : W) (h : Ok w) : Ran (D_law_mixed [.draw] w) fun r w' => ∃ x, r = .sh (.int x) ∧ w' = { w with turn := w.turn + 1 } := by
  refine D_run ?_
  have t0 := h.t0
  have t1 := h.t1
  have l1 : (61441 : Int).natAbs.log2 = 15 := by decide
  have l2 := lg (i := w.turn + 1) (n := 40) (by omega) (by omega) (by decide)
  have hm : mulD (.int 61441) (.int (w.turn + 1)) = some (.sh (.int (61441 * (w.turn + 1)))) := mulD_int (by omega)
  simp [d_law_mixed, R_var, addD, startE, R_iterF, iterD]
  refine R_forL (fun ds ρ w' => w' = { w with turn := w.turn + 1 } ∧ ∃ f x3 x4 x5, ∃ ps : List Int, ds = ps.map D.int ∧ ps.length ≤ 4 ∧ (∀ p ∈ ps, 1000 < p ∧ p < 2 ^ 31) ∧ 0 ≤ f ∧ f < 2 ^ (32 * (4 - ps.length)) ∧ ρ = [vd, vi (w.turn + 1), vi f, x3, x4, x5]) ?_ ?_ _ _ _ ⟨rfl, 0, none, none, none, [2147483629, 2147483587, 2147483579, 2147483563], rfl, by decide, by decide, by decide, by decide, rfl⟩
  · rintro d ds ρ w' ⟨rfl, f, x3, x4, x5, ps, e, hl, hps, hf, hf2, rfl⟩
    cases ps with
    | nil => cases e
    | cons p ps =>
      cases e
      obtain ⟨hp1, hp2⟩ := hps p List.mem_cons_self
      have fd := fdivI_ok (a := p) (b := 19) (by decide) (by decide)
      simp [R_var, intD, hm, fd, addD]
      refine inner _ _ _ (by omega) hp2 (by omega) (by omega) (fun b x hb hb2 => ?_) w.cells _ _ h.cs (by omega) (by omega)
      have pw : powI b 5 = some (.sh (.int (b ^ 5))) := by
        have hb3 : b.natAbs < 18446744073709551616 := by omega
        simp [powI, hb3]
      have lf : f.natAbs.log2 < 129 := lg hf (Int.lt_of_lt_of_le hf2 (by
        have : 32 * (4 - (p :: ps).length) ≤ 129 := by omega
        exact_mod_cast Nat.pow_le_pow_right (by decide) this)) (by decide)
      have lM : (2147483647 : Int).natAbs.log2 = 30 := by decide
      have hm2 : mulD (.int f) (.int 2147483647) = some (.sh (.int (f * 2147483647))) := mulD_int (by omega)
      have hp0 : 0 < p := by omega
      simp [R_var, R_liftN, peeks, peek, intFD, intD, pw, modI, hp0, hm2, addD]
      have g1 := Int.emod_nonneg (b ^ 5) (by omega : p ≠ 0)
      have g2 := Int.emod_lt_of_pos (b ^ 5) hp0
      have eP : 32 * (4 - ps.length) = 32 * (4 - (p :: ps).length) + 32 := by
        simp only [List.length_cons] at hl ⊢
        omega
      refine ⟨_, _, _, _, ps, rfl, by simp only [List.length_cons] at hl; omega, fun q hq => hps q (List.mem_cons_of_mem _ hq), ?_, ?_, rfl, rfl, rfl, rfl⟩
      · omega
      · rw [eP, pow32]
        generalize (2 : Int) ^ (32 * (4 - (p :: ps).length)) = PP at hf2 ⊢
        omega
  · rintro ρ w' ⟨rfl, f, x3, x4, x5, ps, e, _, _, _, _, rfl⟩
    simp [R_var, outR]
end KL

end sec_P1
section sec_P2
set_option maxRecDepth 100000
set_option maxHeartbeats 5000000
/-! P2: take, pick. -/
namespace KL
open PySem L2 FD
/-- b: how many more draws there is room for -/
structure Okb (b : Nat) (w : W) : Prop where
  t0 : 0 ≤ w.turn
  t1 : w.turn + b < 2 ^ 39
  cs : ∀ c ∈ w.cells, 0 ≤ c ∧ c < 2 ^ 31
  wi : w.wide.length < 1000000
theorem Okb.ok {b : Nat} {w : W} (h : Okb b w) : Ok w := ⟨h.t0, by have := h.t1; omega, h.cs⟩
theorem Okb.mono {b c : Nat} {w : W} (h : Okb b w) (hc : c ≤ b) : Okb c w := ⟨h.t0, by have := h.t1; omega, h.cs, h.wi⟩
theorem R_take {b : Nat} {w : W} {n : Int} {Q : RV → W → Prop} (h : Okb (b + 1) w) (hn : 0 < n) (hn2 : n < 2 ^ 100) (q : ∀ k w', 0 ≤ k → k < n → Okb b w' → Q (.sh (.int k)) w') : Ran (D_law_take [.draw, .int n] w) Q := by
  refine D_run ?_
  have fin : ∀ (x : Int) w', Okb b w' → Q (.sh (.int (x % n))) w' := fun x w' h => q _ _ (Int.emod_nonneg _ (by omega)) (Int.emod_lt_of_pos _ hn) h
  have fd := fun a => fdivI_ok (a := a) hn hn2
  have t0 := h.t0
  have t1 := h.t1
  by_cases hr : w.rest = 0
  · cases hw : w.wide with
    | nil =>
      obtain ⟨r, w', e, x, rfl, rfl⟩ := mixed w h.ok
      simp [d_law_take, startE, R_var, eqD_int, hr, hw, e, R_liftN, peeks, peek, intFD, intD, modI, hn, fd, outR]
      exact fin _ _ ⟨by simp; omega, by simp; omega, h.cs, by simp⟩
    | cons x xs =>
      have hx : xs.length < 1000000 := by
        have := h.wi
        rw [hw] at this
        simp at this
        omega
      simp [d_law_take, startE, R_var, eqD_int, hr, hw]
      refine R_drPop ?_
      simp [R_var]
      refine ⟨x, xs, hw, hx, ?_⟩
      simp [R_var, R_liftN, peeks, peek, intFD, intD, modI, hn, fd, outR]
      exact fin _ _ ⟨h.t0, by simp; omega, h.cs, hx⟩
  · simp [d_law_take, startE, R_var, eqD_int, hr, R_liftN, peeks, peek, intFD, intD, modI, hn, fd, outR]
    exact fin _ _ ⟨h.t0, by simp; omega, h.cs, h.wi⟩
end KL

end sec_P2
section sec_P3
set_option maxRecDepth 100000
set_option maxHeartbeats 5000000
/-! P3: pick. -/
namespace KL
open PySem L2 FD
open ST (Up up_eq setN mem_setN up_setN)
theorem R_pick {b : Nat} {w : W} {l : List D} {Q : RV → W → Prop} (h : Okb (b + 1) w) (hl : l ≠ []) (hl2 : l.length ≤ 1000000) (q : ∀ d w', d ∈ l → Okb b w' → Q (.sh d) w') : Ran (D_law_pick [.draw, .lst l] w) Q := by
  refine D_run ?_
  simp [d_law_pick, startE, R_var, R_liftN, peeks, peek, lenD]
  have : 0 < l.length := List.length_pos_iff.mpr hl
  refine R_take h (by omega) (by omega) fun k w' k0 k1 h' => ?_
  obtain ⟨n, rfl⟩ := Int.eq_ofNat_of_zero_le k0
  have hn : n < l.length := by omega
  simp [ixD, atI_nat l n hn, outR]
  exact q _ _ (List.getElem_mem hn) h'
theorem R_pickT {b : Nat} {w : W} {l : List Nat} {Q : RV → W → Prop} (h : Okb (b + 1) w) (hl : l ≠ []) (hl2 : l.length ≤ 1000000) (q : ∀ c w', c ∈ l → Okb b w' → Q (.sh (S [c])) w') : Ran (D_law_pick [.draw, S l] w) Q := by
  refine D_run ?_
  simp [d_law_pick, startE, R_var, R_liftN, peeks, peek, lenD_S hl2]
  have : 0 < l.length := List.length_pos_iff.mpr hl
  refine R_take h (by omega) (by omega) fun k w' k0 k1 h' => ?_
  obtain ⟨n, rfl⟩ := Int.eq_ofNat_of_zero_le k0
  have hn : n < l.length := by omega
  have e : (st l).length ≤ 1000000 := by rw [st_len]; exact hl2
  simp [ixD, e, atI_nat l n hn, outR]
  exact q _ _ (List.getElem_mem hn) h'
end KL

end sec_P3
section sec_P8
set_option maxRecDepth 100000
set_option maxHeartbeats 5000000
/-! P8: drawn schemes. -/
namespace KL
open PySem L2 FD
open ST (Up up_eq setN mem_setN up_setN)
local instance tl9 : Tabl := ⟨[]⟩
theorem map_erase {α β : Type} (f : α → β) : ∀ (l : List α) (j : Nat), (l.map f).eraseIdx j = (l.eraseIdx j).map f
  | [], _ => rfl
  | _ :: _, 0 => rfl
  | a :: l, j + 1 => by
    show f a :: (l.map f).eraseIdx j = f a :: (l.eraseIdx j).map f
    rw [map_erase f l j]
abbrev sgn (l : List Nat) : List D := l.map fun c => S [c]
theorem listD_S {l : List Nat} (h : l.length ≤ 1000000) : listD [S l] = some (.fr (.lst (sgn l))) := by
  simp [listD, h, signsD]
theorem R_columns {b : Nat} {w : W} {m : Int} {Q : RV → W → Prop} (h : Okb (b + 10) w) (hm : 1 ≤ m) (hm2 : m ≤ 100) (q : ∀ cs w', Col cs → (cs.length : Int) ≤ m → Okb b w' → Q (.sh (S cs)) w') : Ran (D_law_columns [.draw, .int m] w) Q := by
  refine D_run ?_
  simp [d_law_columns, startE, R_var, lit_abcd, R_liftNg, peeks, peek, listD_S]
  refine R_take (b := b + 9) h (by omega) (by omega) fun k w1 k0 k1 h1 => ?_
  simp [addD]
  obtain ⟨J, hJ⟩ : ∃ J : Nat → FD.Env → W → Prop, ∀ n ρ w', J n ρ w' ↔ ∃ left : List Nat, ρ = [some (.val .draw), some (.val (.int m)), some (.own (.lst (sgn left))), some (.val (.int (1 + k)))] ∧ left.Sublist [97, 98, 99, 100] ∧ left ≠ [] ∧ n = left.length ∧ Okb (b + n) w' := ⟨_, fun _ _ _ => Iff.rfl⟩
  obtain ⟨B, hB⟩ : ∃ B : Nat → FD.Env → W → Prop, ∀ n ρ w', B n ρ w' ↔ ∃ left : List Nat, ρ = [some (.val .draw), some (.val (.int m)), some (.own (.lst (sgn left))), some (.val (.int (1 + k)))] ∧ left.Sublist [97, 98, 99, 100] ∧ 2 ≤ left.length ∧ n = left.length ∧ Okb (b + n) w' := ⟨_, fun _ _ _ => Iff.rfl⟩
  refine R_while2 J B ?_ ?_ 1000000 4 _ _ (by omega) ((hJ _ _ _).mpr ⟨[97, 98, 99, 100], rfl, List.Sublist.refl _, by simp, rfl, h1.mono (by omega)⟩)
  · intro n ρ w' hj
    obtain ⟨left, rfl, hs, hne, rfl, hb⟩ := (hJ _ _ _).mp hj
    by_cases hg : 1 + k < (left.length : Int)
    · simp [R_var, R_own, R_liftNg, peeks, peek, slotD, lenD, intD, i0, hg]
      exact (hB _ _ _).mpr ⟨left, rfl, hs, by omega, rfl, hb⟩
    · have hl := hs.length_le
      simp at hl
      simp [R_var, R_own, R_liftNg, R_lift1g, peeks, peek, slotD, lenD, intD, i0, hg, lit_e, joinD_signs (show left.length ≤ 1000000 by omega), outR]
      exact q left w' ⟨hs, hne⟩ (by omega) (hb.mono (by omega))
  · intro n ρ w' hj
    obtain ⟨left, rfl, hs, hl, rfl, hb⟩ := (hB _ _ _).mp hj
    have hl4 := hs.length_le
    simp at hl4
    simp only [exprM, R_bind]
    refine R_popQ (ds0 := sgn left) rfl ?_
    simp [R_var, R_own, R_liftNg, peeks, peek, slotD, lenD]
    refine R_take (b := b + (left.length - 1)) (hb.mono (by omega)) (by omega) (by omega) fun i w2 i0 i1 h2 => ?_
    obtain ⟨j, rfl⟩ := Int.eq_ofNat_of_zero_le i0
    have hj : j < left.length := by omega
    refine PopQ.mk (ds := sgn left) rfl (by simpa using hj) (by simp; omega) ?_
    have e : (sgn left).eraseIdx j = sgn (left.eraseIdx j) := by
      simp only [sgn, map_erase]
    simp
    refine ⟨left.length - 1, by omega, (hJ _ _ _).mpr ⟨left.eraseIdx j, by simp [e], (List.eraseIdx_sublist _ _).trans hs, ?_, ?_, h2⟩⟩
    · intro z
      have := List.length_eraseIdx_of_lt hj
      rw [z] at this
      simp at this
      omega
    · rw [List.length_eraseIdx_of_lt hj]
theorem R_letters {b : Nat} {w : W} {l : List Nat} {Q : RV → W → Prop} (h : Okb (b + l.length) w) (hl : l.length ≤ 1000) (q : ∀ s w', s.Sublist l → Okb b w' → Q (.sh (S s)) w') : Ran (D_law_letters [.draw, S l] w) Q := by
  refine D_run ?_
  simp [d_law_letters, startE, R_var, R_lcM, iterD_S]
  refine ⟨⟨rfl, by omega⟩, ?_⟩
  obtain ⟨J, hJ⟩ : ∃ J : List Nat → List D → W → Prop, ∀ rest acc w', J rest acc w' ↔ (∃ s : List Nat, acc = sgn s ∧ (∀ t : List Nat, t.Sublist rest → (s ++ t).Sublist l) ∧ Okb (b + rest.length) w') := ⟨_, fun _ _ _ => Iff.rfl⟩
  refine R_lcInv (fun c => S [c]) J ?_ ?_ l ((hJ _ _ _).mpr ⟨[], rfl, fun t ht => by simpa using ht, h⟩)
  · intro c rest acc w' hj
    obtain ⟨s, rfl, hs, hb⟩ := (hJ _ _ _).mp hj
    simp [R_var, wipeE]
    refine R_take (b := b + rest.length) (hb.mono (by simp only [List.length_cons]; omega)) (by decide) (by decide) fun k w2 k0 k1 h2 => ?_
    by_cases hk : k = 0
    · simp [eqD_int, hk, R_var, wipeE]
      refine (hJ _ _ _).mpr ⟨s ++ [c], by simp [sgn], fun t ht => ?_, h2⟩
      have := hs (c :: t) (ht.cons_cons c)
      simpa using this
    · simp [eqD_int, hk, R_var, wipeE]
      exact (hJ _ _ _).mpr ⟨s, rfl, fun t ht => hs t (ht.cons c), h2⟩
  · intro acc w' hj
    obtain ⟨s, rfl, hs, hb⟩ := (hJ _ _ _).mp hj
    have hsl : s.Sublist l := by simpa using hs [] (List.nil_sublist _)
    have := hsl.length_le
    simp [R_lift1g, peek, lit_e, joinD_signs (show s.length ≤ 1000000 by omega), outR]
    exact q s w' hsl hb
end KL

end sec_P8
section sec_PC
set_option maxRecDepth 100000
set_option maxHeartbeats 5000000
/-! PC: slices; ranges. -/
namespace KL
open PySem L2 FD
open ST (Up up_eq setN mem_setN up_setN)
local instance tpc : Tabl := ⟨[]⟩
theorem cut_take {α : Type} (xs : List α) (n : Nat) : cutL xs none (some (n : Int)) = xs.take n := by
  unfold cutL
  rw [HT.sIx_none, HT.sIx_nat]
  simp [List.take_eq_take_iff]
theorem cut_drop {α : Type} (xs : List α) (n : Nat) : cutL xs (some (n : Int)) none = xs.drop n := by
  unfold cutL
  rw [HT.sIx_none, HT.sIx_nat]
  by_cases h : n ≤ xs.length
  · rw [Nat.min_eq_left h, List.take_of_length_le (by simp)]
  · rw [Nat.min_eq_right (by omega)]
    simp
    omega
theorem R_range' {ρ : FD.Env} {w : W} {n : Int} {Q : List D → FD.Env → W → Prop} (h : -1000000 ≤ n ∧ n ≤ 1000000) : R (rangeM [.sh (.int n)]) ρ w Q ↔ Q ((List.range n.toNat).map fun (i : Nat) => D.int (i : Int)) ρ w := R_range rfl h
theorem addr {cs : List Nat} (hC : Col cs) : addD (S cs) (S [114]) = some (.sh (S (cs ++ [114]))) := addD_S (by have := hC.len; simp; omega)
end KL

end sec_PC
section sec_P9
set_option maxRecDepth 100000
set_option maxHeartbeats 5000000
/-! P9: drawn schemes. -/
namespace KL
open PySem L2 FD
open ST (Up up_eq setN mem_setN up_setN)
local instance tl10 : Tabl := ⟨[]⟩
theorem R_drawn {b : Nat} {w : W} {m : Int} {t : Nat} {Q : RV → W → Prop} (h : Okb (b + 200) w) (hm : 1 ≤ m) (hm2 : m ≤ 100) (ht : 1 ≤ t) (ht2 : t ≤ 20) (q : ∀ cs ds w', Col cs → (cs.length : Int) ≤ m → (∀ p ∈ ds, Dep cs p) → ds.length ≤ t → Okb b w' → Q (.sh (planD cs ds)) w') : Ran (D_law_drawn [.draw, .int m, .int t] w) Q := by
  refine D_run ?_
  simp [d_law_drawn, startE, R_var]
  refine R_columns (b := b + 190) h hm hm2 fun cs w1 hC hcl h1 => ?_
  have hc := hC.len
  simp [R_var, addD]
  refine R_take (b := b + 189) h1 (by omega) (by omega) fun k w2 k0 k1 h2 => ?_
  simp
  refine R_pick (b := b + 188) h2 (by simp) (by simp) fun d w3 hd h3 => ?_
  obtain ⟨n, rfl, hn⟩ : ∃ n : Nat, d = .int n ∧ n ≤ 20 := by
    simp at hd
    rcases hd with rfl | rfl | rfl | rfl
    · exact ⟨0, rfl, by omega⟩
    · exact ⟨1, rfl, by omega⟩
    · exact ⟨2, rfl, by omega⟩
    · exact ⟨k.toNat, by rw [Int.toNat_of_nonneg k0], by omega⟩
  rw [R_range' (by omega)]
  obtain ⟨J, hJ⟩ : ∃ J : List Nat → FD.Env → W → Prop, ∀ rest ρ w', J rest ρ w' ↔ ∃ (ds : List (List Nat × Nat)) (x5 x6 : Option Slot), ρ = [some (.val .draw), some (.val (.int m)), some (.val (.int t)), some (.val (S cs)), some (.own (.lst (ds.map depD))), x5, x6] ∧ (∀ p ∈ ds, Dep cs p) ∧ ds.length + rest.length ≤ 20 ∧ Okb (b + 9 * rest.length) w' := ⟨_, fun _ _ _ => Iff.rfl⟩
  refine R_forLm (fun i : Nat => D.int (i : Int)) J ?_ ?_ _ _ _ ((hJ _ _ _).mpr ⟨[], none, none, rfl, fun _ h => (nomatch h), by simp; omega, h3.mono (by simp; omega)⟩)
  · intro i rest ρ w' hj
    obtain ⟨ds, x5, x6, rfl, hds, hl, hb⟩ := (hJ _ _ _).mp hj
    simp only [List.length_cons] at hl hb
    simp [R_var, lit_r, addr hC]
    refine R_letters (b := b + 9 * rest.length + 3) (hb.mono (by simp; omega)) (by simp; omega) fun s w4 hs h4 => ?_
    have hs' : Set_ cs s := hs
    have fin : ∀ lo w5, Set_ cs lo → Okb (b + 9 * rest.length + 1) w5 → ∀ x5, R (appM 4 (tupM (consA (varM 6) (consA (callM D_law_pick [] (consA (varM 0) (consA (bM listD (consA (op2M addD (varM 3) (pureM (.sh (.str (st [114]))))) (pureM []))) (pureM [])))) (pureM []))))) [some (.val .draw), some (.val (.int m)), some (.val (.int t)), some (.val (S cs)), some (.own (.lst (ds.map depD))), x5, some (.val (S lo))] w5 fun a ρ2 w2 => J rest ρ2 w2 := by
      intro lo w5 hlo h5 x5
      refine R_appQ (ds0 := ds.map depD) rfl ?_
      simp [R_var, lit_r, addr hC, R_liftN, peeks, peek, listD_S (show (cs ++ [114]).length ≤ 1000000 by simp; omega), -List.map_append]
      refine R_pick h5 (by simp) (by simp; omega) fun d w6 hd h6 => ?_
      obtain ⟨c, hc', rfl⟩ := List.mem_map.mp hd
      simp
      refine ⟨ds.map depD, rfl, by simp; omega, ?_⟩
      simp
      refine (hJ _ _ _).mpr ⟨ds ++ [(lo, c)], x5, some (.val (S lo)), by simp, fun p hp => ?_, by simp; omega, h6⟩
      rcases List.mem_append.mp hp with hp | hp
      · exact hds p hp
      · rw [List.mem_singleton.mp hp]
        exact ⟨hlo, hc'⟩
    have e1 := eqD_S (l := s) (m := []) (hs'.cp hC) (fun x hx => nomatch hx)
    by_cases he : s = []
    · subst he
      simp [R_var, lit_e, e1]
      refine R_take (b := b + 9 * rest.length + 2) h4 (by decide) (by decide) fun k w5 k0 k1 h5 => ?_
      by_cases hk : 0 < k
      · simp [intD, i0, hk, R_var, R_liftN, peeks, peek, listD_S (show cs.length ≤ 1000000 by omega)]
        refine R_pick h5 (by simpa using hC.2) (by simp; omega) fun d w6 hd h6 => ?_
        obtain ⟨c, hc', rfl⟩ := List.mem_map.mp hd
        simp only [R_asgsh]
        exact fin [c] w6 (one_set (List.mem_append_left _ hc')) h6 _
      · simp [intD, i0, hk]
        exact fin [] w5 hs' (h5.mono (by omega)) _
    · simp [R_var, lit_e, e1, he]
      exact fin s w4 hs' (h4.mono (by omega)) _
  · intro ρ w' hj
    obtain ⟨ds, x5, x6, rfl, hds, hl, hb⟩ := (hJ _ _ _).mp hj
    simp [R_var, R_own, R_lift1g, R_liftNg, peek, peeks, slotD, slD, tupD, cut_take, outR]
    have e : planD cs (ds.take t) = .tup [S cs, .tup ((ds.map depD).take t)] := by simp
    rw [← List.map_take]
    exact q cs (ds.take t) w' hC hcl (fun p hp => hds p (List.mem_of_mem_take hp)) (by simp; omega) (hb.mono (by omega))
end KL

end sec_P9
section sec_L3
set_option maxRecDepth 100000
set_option maxHeartbeats 5000000
/-! L3: drawn rows, one by one. -/
namespace KL
open PySem L2 FD
open ST (Up up_eq setN mem_setN up_setN)
local instance tt7 : Tabl := ⟨[]⟩
/-- a drawn row: its numbers within the bounds -/
structure Row.Bd (r : Row) : Prop where
  x0 : -1000000 ≤ r.x
  x1 : r.x ≤ 1000000
  v1 : 1 ≤ r.v
  v2 : r.v ≤ 1000000
  w1 : 1 ≤ r.w
  w2 : r.w ≤ 1000000
theorem pow6 : powI 10 6 = some (.sh (.int 1000000)) := rfl
theorem R_row {b : Nat} {w : W} {ks : List Int} {kind : Str} {Q : RV → W → Prop} (hk : kind = "any" ∨ kind = "small") (h : Okb (b + 4) w) (q : ∀ r w', r.keys = ks → r.Bd → Okb b w' → Q (.sh (rowD r)) w') : Ran (D_law_row [.draw, nD ks, .str kind] w) Q := by
  refine D_run ?_
  have fin : ∀ (n : Int) (w1 : W), (n = 9 ∨ n = 40 ∨ n = 1000000) → Okb (b + 3) w1 → R (seqM (setM' 4 (op2M subD (callM D_law_take [] (consA (varM 0) (consA (op2M addD (op2M mulD (pureM (.sh (.int 2))) (varM 3)) (pureM (.sh (.int 1)))) (pureM [])))) (varM 3)))
      (retM (tupM (consA (varM 1) (consA (varM 4) (consA (op2M addD (pureM (.sh (.int 1))) (callM D_law_take [] (consA (varM 0) (consA (varM 3) (pureM []))))) (consA (op2M addD (pureM (.sh (.int 1))) (callM D_law_take [] (consA (varM 0) (consA (varM 3) (pureM []))))) (pureM [])))))))) [some (.val .draw), some (.val (nD ks)), some (.val (.str kind)), some (.val (.int n)), none] w1
      fun fl ρ' w' => ∃ r', (match fl with | .ret r => outR ρ' r = some r' | .nx => r' = .sh .non | _ => False) ∧ Q r' w' := by
    intro n w1 hn h1
    have hm : mulD (.int 2) (.int n) = some (.sh (.int (2 * n))) := by rcases hn with rfl | rfl | rfl <;> rfl
    simp [R_var, hm, addD]
    refine R_take (b := b + 2) h1 (by omega) (by omega) fun k w2 k0 k1 h2 => ?_
    simp [R_var, intD, i0]
    refine R_take (b := b + 1) (n := n) h2 (by omega) (by omega) fun k' w3 k0' k1' h3 => ?_
    simp [R_var, addD]
    refine R_take (b := b) (n := n) h3 (by omega) (by omega) fun k'' w4 k0'' k1'' h4 => ?_
    simp [addD, outR]
    exact q ⟨ks, k - n, 1 + k', 1 + k''⟩ w4 rfl ⟨by show -1000000 ≤ k - n; omega, by show k - n ≤ 1000000; omega, by show 1 ≤ 1 + k'; omega, by show 1 + k' ≤ 1000000; omega, by show 1 ≤ 1 + k''; omega, by show 1 + k'' ≤ 1000000; omega⟩ h4
  unfold d_law_row
  refine R_then (fun ρ' w1 => ∃ n, ρ' = [some (.val .draw), some (.val (nD ks)), some (.val (.str kind)), some (.val (.int n)), none] ∧ (n = 9 ∨ n = 40 ∨ n = 1000000) ∧ Okb (b + 3) w1) ?_ (fun ρ' w1 hh => by
    obtain ⟨n, rfl, hn, h1⟩ := hh
    exact fin n w1 hn h1)
  rcases hk with rfl | rfl
  · have e : eqD (.str "any") (.str "any") = some (.sh (.bl true)) := by
      have : cmpD (.str "any") (.str "any") = some true := by decide +kernel
      simp [eqD, this]
    simp [startE, R_var, e, intD, pow6]
    refine R_pick (b := b + 3) h (by simp) (by simp) fun d w1 hd h1 => ?_
    simp at hd
    obtain ⟨n, rfl, hn⟩ : ∃ n, d = .int n ∧ (n = 9 ∨ n = 40 ∨ n = 1000000) := by
      rcases hd with rfl | rfl | rfl
      · exact ⟨9, rfl, by simp⟩
      · exact ⟨40, rfl, by simp⟩
      · exact ⟨1000000, rfl, by simp⟩
    simp
    exact ⟨hn, h1⟩
  · have e : eqD (.str "small") (.str "any") = some (.sh (.bl false)) := by
      have : cmpD (.str "small") (.str "any") = some false := by decide +kernel
      simp [eqD, this]
    simp [startE, R_var, e]
    exact h.mono (by omega)
/-! ### keys that fit -/
def From (ks : List Int) (rows : List Row) (k : Int) : Prop := k ∈ ks ∨ ∃ r ∈ rows, k ∈ r.keys
theorem eqD_ints_nil (l : List Nat) : eqD (.lst (l.map fun (i : Nat) => D.int (i : Int))) (.lst []) = some (.sh (.bl (decide (l = [])))) := by
  have n1 : NB 64 (.lst (l.map fun (i : Nat) => D.int (i : Int))) := fun d hd => by
    obtain ⟨i, _, rfl⟩ := List.mem_map.mp hd
    exact NB_int
  have n2 : NB 64 (.lst []) := fun d hd => nomatch hd
  rw [eqD_NB n1 n2]
  congr 3
  rw [decide_eq_decide]
  cases l <;> simp
theorem fit_in {cs : List Nat} {ks0 : List Int} {rows : List Row} {P : D} {d2 : Option Slot} {sp : List Nat} {a : Nat} {w : W} (hr : ∀ r ∈ rows, r.Ok cs) (hsp : ∀ s ∈ sp, s < cs.length) (hs5 : sp.length ≤ 1000) (ha : a < cs.length) {x4 x5 x6 : Option Slot} {Q : Fl → FD.Env → W → Prop}
    (q : ∀ (ks : List Int) x7 x9, ks.length = cs.length → (∀ k ∈ ks, From ks0 rows k) → Q .nx [some (.val P), some (.val (.lst (rows.map rowD))), d2, some (.own (.lst (ks.map D.int))), x4, x5, x6, x7, none, x9, some (.val (.int a)), none, none] w) :
    ∀ (rest : List Row) (ks : List Int) (x7 : Option Slot) (x9 : Slot), (∀ r ∈ rest, r ∈ rows) → ks.length = cs.length → (∀ k ∈ ks, From ks0 rows k) → (x9 = .own (natsD sp) ∨ x9 = .val (natsD sp)) →
    R (forL (gNameM 7)
   (ifM (boolM (op2M eqD (lcM (bindM (varM 9) iterM) [12] (gNameM 12) (boolM (op2M neD (op2M ixD (op2M ixD (varM 7) (pureM (.sh (.int 0)))) (varM 12)) (op2M ixD (varM 3) (varM 12)))) (varM 12)) (lstM (pureM [])))) (lputM 3 (op2M ixD (op2M ixD (varM 7) (pureM (.sh (.int 0)))) (varM 10)) (varM 10)) (pureM .nx)) (rest.map rowD)) [some (.val P), some (.val (.lst (rows.map rowD))), d2, some (.own (.lst (ks.map D.int))), x4, x5, x6, x7, none, some x9, some (.val (.int a)), none, none] w Q := by
  intro rest ks x7 x9 hrest hks hfr hx9
  obtain ⟨J, hJ⟩ : ∃ J : List Row → FD.Env → W → Prop, ∀ rest ρ w', J rest ρ w' ↔ (w' = w ∧ (∀ r ∈ rest, r ∈ rows) ∧ ∃ (ks : List Int) (x7 : Option Slot) (x9 : Slot), ρ = [some (.val P), some (.val (.lst (rows.map rowD))), d2, some (.own (.lst (ks.map D.int))), x4, x5, x6, x7, none, some x9, some (.val (.int a)), none, none] ∧ ks.length = cs.length ∧ (∀ k ∈ ks, From ks0 rows k) ∧ (x9 = .own (natsD sp) ∨ x9 = .val (natsD sp))) := ⟨_, fun _ _ _ => Iff.rfl⟩
  refine R_forLm rowD J ?_ ?_ rest _ _ ((hJ _ _ _).mpr ⟨rfl, hrest, ks, x7, x9, rfl, hks, hfr, hx9⟩)
  · intro r rest ρ w' h
    obtain ⟨rfl, hrest, ks, x7, x9, rfl, hks, hfr, hx9⟩ := (hJ _ _ _).mp h
    have hm := hrest r List.mem_cons_self
    have ok := (hr r hm).len
    have a0 : L2.atI [nD r.keys, D.int r.x, D.int r.v, D.int r.w] 0 = some (nD r.keys) := rfl
    have tail : R (ifM (boolM (op2M eqD (lcM (bindM (varM 9) iterM) [12] (gNameM 12) (boolM (op2M neD (op2M ixD (op2M ixD (varM 7) (pureM (.sh (.int 0)))) (varM 12)) (op2M ixD (varM 3) (varM 12)))) (varM 12)) (lstM (pureM [])))) (lputM 3 (op2M ixD (op2M ixD (varM 7) (pureM (.sh (.int 0)))) (varM 10)) (varM 10)) (pureM .nx)) [some (.val P), some (.val (.lst (rows.map rowD))), d2, some (.own (.lst (ks.map D.int))), x4, x5, x6, some (.val (rowD r)), none, some x9, some (.val (.int a)), none, none] w'
        fun fl ρ2 w2 => fl = .nx ∧ J rest ρ2 w2 := by
      have core : R (lcL [12] (gNameM 12) (boolM (op2M neD (op2M ixD (op2M ixD (varM 7) (pureM (.sh (.int 0)))) (varM 12)) (op2M ixD (varM 3) (varM 12)))) (varM 12) (sp.map fun (i : Nat) => D.int (i : Int))) [some (.val P), some (.val (.lst (rows.map rowD))), d2, some (.own (.lst (ks.map D.int))), x4, x5, x6, some (.val (rowD r)), none, some (.val (natsD sp)), some (.val (.int a)), none, none] w' fun ys ρ2 w2 => (∃ F : List Nat, ys = F.map (fun (i : Nat) => D.int (i : Int))) ∧ ρ2 = [some (.val P), some (.val (.lst (rows.map rowD))), d2, some (.own (.lst (ks.map D.int))), x4, x5, x6, some (.val (rowD r)), none, some (.val (natsD sp)), some (.val (.int a)), none, none] ∧ w2 = w' := by
        refine R_lcFil (fun (i : Nat) => D.int (i : Int)) (fun s => !decide (r.keys.getD s 0 = ks.getD s 0)) (fun (i : Nat) => D.int (i : Int)) sp (fun s hs => ?_) ⟨⟨_, rfl⟩, rfl, rfl⟩
        have hlt := hsp s hs
        have k1 : s < r.keys.length := by omega
        have k2 : s < ks.length := by omega
        have e1 := atI_map D.int r.keys s k1
        have e2 := atI_map D.int ks s k2
        by_cases q : r.keys[s] = ks[s]
        · simp [R_var, R_own, ixD, a0, e1, e2, R_lift2g, peek, slotD, neD_int, wipeE, k1, k2, q]
        · simp [R_var, R_own, ixD, a0, e1, e2, R_lift2g, peek, slotD, neD_int, wipeE, k1, k2, q]
      obtain ⟨ys, ρ3, w3, ec, ⟨F, rfl⟩, rfl, rfl⟩ := core
      have ee := eqD_ints_nil F
      have hra : a < r.keys.length := by omega
      have hka : a < ks.length := by omega
      have ea := atI_map D.int r.keys a hra
      have lA : R (lputM 3 (op2M ixD (op2M ixD (varM 7) (pureM (.sh (.int 0)))) (varM 10)) (varM 10)) [some (.val P), some (.val (.lst (rows.map rowD))), d2, some (.own (.lst (ks.map D.int))), x4, x5, x6, some (.val (rowD r)), none, some (.val (natsD sp)), some (.val (.int a)), none, none] w3 fun fl ρ2 w2 => fl = .nx ∧ J rest ρ2 w2 := by
        refine R_lput ?_
        simp [R_var, ixD, a0, ea, ownL, peek, hka]
        have e : (ks.map D.int).set a (.int r.keys[a]) = (ks.set a r.keys[a]).map D.int := by simp [List.map_set]
        refine ⟨a, rfl, hka, ?_⟩
        rw [e]
        refine (hJ _ _ _).mpr ⟨rfl, fun r' h' => hrest r' (List.mem_cons_of_mem _ h'), ks.set a r.keys[a], _, _, rfl, by simp [hks], fun k hk => ?_, .inr rfl⟩
        rcases List.mem_or_eq_of_mem_set hk with z | z
        · exact hfr k z
        · rw [z]
          exact .inr ⟨r, hm, List.getElem_mem _⟩
      have lB : J rest [some (.val P), some (.val (.lst (rows.map rowD))), d2, some (.own (.lst (ks.map D.int))), x4, x5, x6, some (.val (rowD r)), none, some (.val (natsD sp)), some (.val (.int a)), none, none] w3 :=
        (hJ _ _ _).mpr ⟨rfl, fun r' h' => hrest r' (List.mem_cons_of_mem _ h'), ks, _, _, rfl, hks, hfr, .inr rfl⟩
      rcases hx9 with rfl | rfl
      · simp only [R_ifM, R_bool, R_op2, R_lcM, R_bind, R_iterM]
        simp [R_own, R_escow, iterD]
        refine ⟨⟨rfl, by omega⟩, _, _, _, ec, ?_⟩
        simp [R_lift2g, peek, ee, restE, wipeE]
        by_cases q : F = []
        · simpa [q] using lA
        · simpa [q] using lB
      · simp only [R_ifM, R_bool, R_op2, R_lcM, R_bind, R_iterM]
        simp [R_var, iterD]
        refine ⟨⟨rfl, by omega⟩, _, _, _, ec, ?_⟩
        simp [R_lift2g, peek, ee, restE, wipeE]
        by_cases q : F = []
        · simpa [q] using lA
        · simpa [q] using lB
    simp only [R_gName]
    refine R.mono tail fun fl ρ2 w2 hh => ?_
    obtain ⟨rfl, hh⟩ := hh
    exact hh
  · intro ρ w' h
    obtain ⟨rfl, hrest, ks, x7, x9, rfl, hks, hfr, hx9⟩ := (hJ _ _ _).mp h
    exact q ks x7 _ hks hfr
end KL

end sec_L3
section sec_L4
set_option maxRecDepth 100000
set_option maxHeartbeats 5000000
/-! L4: keys that fit. -/
namespace KL
open PySem L2 FD
open ST (Up up_eq setN mem_setN up_setN)
local instance tt8 : Tabl := ⟨[]⟩
theorem R_fitted {cs : List Nat} {ds : List (List Nat × Nat)} {ks0 : List Int} {rows : List Row} {d : D} {w : W} {Q : RV → W → Prop} (hC : Col cs) (hd : ∀ p ∈ ds, Dep cs p) (hn : ds.length ≤ 1000) (hr : ∀ r ∈ rows, r.Ok cs) (e : listD [d] = some (.fr (.lst (ks0.map D.int)))) (hk : ks0.length = cs.length)
    (q : ∀ ks : List Int, ks.length = cs.length → (∀ k ∈ ks, From ks0 rows k) → Q (.sh (nD ks)) w) : Ran (D_law_fitted [planD cs ds, .lst (rows.map rowD), d] w) Q := by
  refine D_run ?_
  have hc := hC.len
  have p0 : L2.atI [S cs, D.tup (ds.map depD)] 0 = some (S cs) := rfl
  have p1 : L2.atI [S cs, D.tup (ds.map depD)] 1 = some (D.tup (ds.map depD)) := rfl
  obtain ⟨I, hI⟩ : ∃ I : FD.Env → W → Prop, ∀ ρ w', I ρ w' ↔ (w' = w ∧ ∃ (ks : List Int) (x4 x5 x6 x7 x9 x10 : Option Slot), ρ = [some (.val (planD cs ds)), some (.val (.lst (rows.map rowD))), some (.val d), some (.own (.lst (ks.map D.int))), x4, x5, x6, x7, none, x9, x10, none, none] ∧ ks.length = cs.length ∧ ∀ k ∈ ks, From ks0 rows k) := ⟨_, fun _ _ => Iff.rfl⟩
  unfold d_law_fitted
  refine R_then I ?_ ?_
  · simp [startE, R_var, R_liftNg, peek, peeks, e]
    exact (hI _ _).mpr ⟨rfl, ks0, _, _, _, _, _, _, rfl, hk, fun k hk => .inl hk⟩
  intro ρ1 w1 h1
  refine R_then I ?_ ?_
  · simp only [R_for, R_bind, R_consA, R_pure]
    rw [R_range (n := 4) rfl (by omega)]
    refine R_forLm (fun (i : Nat) => D.int (i : Int)) (fun _ ρ w => I ρ w) ?_ (fun ρ w h => ⟨rfl, h⟩) _ _ _ h1
    intro i rest ρ2 w2 h2
    obtain ⟨rfl, ks, x4, x5, x6, x7, x9, x10, rfl, hks, hfr⟩ := (hI _ _).mp h2
    simp only [R_gName]
    have good : ∀ p ∈ ds.filter (fun p => !decide (114 ∈ p.1 ++ [p.2])), Dep cs p ∧ 114 ∉ p.1 ∧ p.2 ≠ 114 := fun p hp => by
      obtain ⟨a, b⟩ := List.mem_filter.mp hp
      have b : ¬ 114 ∈ p.1 ++ [p.2] := by simpa using b
      refine ⟨hd p a, fun z => b (List.mem_append_left _ z), fun z => b (List.mem_append_right _ (by simp [z]))⟩
    generalize hds : ds.filter (fun p => !decide (114 ∈ p.1 ++ [p.2])) = es at good
    have ic : ∀ {x : Nat}, x ∈ cs ++ [114] → x ≠ 114 → x ∈ cs := fun {x} hx hne => by
      rcases List.mem_append.mp hx with z | z
      · exact z
      · exact absurd (List.mem_singleton.mp z) hne
    simp only [List.set_cons_succ, List.set_cons_zero, R_for, R_bind, R_lcM]
    simp [R_var, ixD, p1, iterD]
    refine ⟨⟨rfl, by omega⟩, R_lcFil depD (fun p => !decide (114 ∈ p.1 ++ [p.2])) depD ds (fun p hp => ?_) ?_⟩
    · have a0 : L2.atI [S p.1, S [p.2]] 0 = some (S p.1) := rfl
      have a1 : L2.atI [S p.1, S [p.2]] 1 = some (S [p.2]) := rfl
      have hl := (hd p hp).1.len hC
      have ad := addD_S (l := p.1) (m := [p.2]) (by simp; omega)
      have ii := inS_S (c := 114) (l := p.1 ++ [p.2]) (no := true)
      by_cases z : 114 ∈ p.1 ++ [p.2]
      · simp [z] at ii
        simp [R_var, lit_r, ixD, a0, a1, ad, ii, wipeE]
        intro h
        simpa [h] using z
      · simp [z] at ii
        simp [R_var, lit_r, ixD, a0, a1, ad, ii, wipeE]
        simpa using z
    · rw [hds]
      simp [restE, wipeE]
      refine R_forLm depD (fun rest ρ w => (∀ p ∈ rest, p ∈ es) ∧ I ρ w) ?_ (fun ρ w h => h.2) es _ _ ⟨fun _ h => h, (hI _ _).mpr ⟨rfl, ks, _, _, _, _, _, _, rfl, hks, hfr⟩⟩
      clear hfr hks h2
      rintro ⟨lo, c⟩ rest ρ4 w4 ⟨hrest, h4⟩
      obtain ⟨rfl, ks, x4, x5, x6, x7, x9, x10, rfl, hks, hfr⟩ := (hI _ _).mp h4
      obtain ⟨hp, n1, n2⟩ := good (lo, c) (hrest _ List.mem_cons_self)
      have hlo : lo.length ≤ 5 := hp.1.len hC
      have inc : ∀ x ∈ lo, x ∈ cs := fun x hx => ic (hp.1.subset hx) fun z => n1 (z ▸ hx)
      have hcc : c ∈ cs := ic hp.2 n2
      have ix := index_S hC hcc
      simp only [R_gTup, R_gCons, R_gName, R_gNil, List.set_cons_succ, List.set_cons_zero]
      refine R_then (fun ρ' w' => w' = w4 ∧ ρ' = [some (.val (planD cs ds)), some (.val (.lst (rows.map rowD))), some (.val d), some (.own (.lst (ks.map D.int))), x4, some (.val (S lo)), some (.val (S [c])), x7, none, some (.own (natsD (lo.map cs.idxOf))), some (.val (.int (cs.idxOf c : Nat))), none, none]) ?_ ?_
      · simp [R_var, R_lcM, iterD_S]
        refine ⟨⟨rfl, by omega⟩, R_lcMap (fun c => S [c]) (fun c => .int (cs.idxOf c : Nat)) lo (fun x hx => ?_) ?_⟩
        · simp [R_var, wipeE, ixD, p0, index_S hC (inc x hx)]
        · simp [R_var, restE, wipeE, ixD, p0, ix]
      intro ρ5 w5 h5
      obtain ⟨rfl, rfl⟩ := h5
      simp [R_var, iterD]
      refine fit_in (ks0 := ks0) hr (fun s hs => ?_) (by simp; omega) (List.idxOf_lt_length_of_mem hcc) (fun ks' x7 x9 h1 h2 => ⟨fun a b hp => hrest (a, b) (List.mem_cons_of_mem _ hp), (hI _ _).mpr ⟨rfl, ks', _, _, _, _, _, _, rfl, h1, h2⟩⟩) rows ks x7 _ (fun _ h => h) hks hfr (.inl rfl)
      obtain ⟨x, hx, rfl⟩ := List.mem_map.mp hs
      exact List.idxOf_lt_length_of_mem (inc x hx)
  intro ρ3 w3 h3
  obtain ⟨rfl, ks, x4, x5, x6, x7, x9, x10, rfl, hks, hfr⟩ := (hI _ _).mp h3
  simp [R_own, R_liftNg, peek, peeks, slotD, tupD, outR]
  exact q ks hks hfr
end KL

end sec_L4
section sec_LN
set_option maxRecDepth 100000
set_option maxHeartbeats 5000000
/-! LN: data that can be compared. -/
namespace KL
open PySem L2 FD
open ST (Up up_eq setN mem_setN up_setN)
local instance tlln : Tabl := ⟨[]⟩
theorem NB_row (r : Row) : NB 60 (rowD r) := by
  intro d hd
  have nb : ∀ a : List Int, NB 59 (nD a) := fun a d hd => by
    obtain ⟨i, _, rfl⟩ := List.mem_map.mp hd
    exact NB_int
  simp only [List.mem_cons, List.not_mem_nil, or_false] at hd
  rcases hd with rfl | rfl | rfl | rfl
  · exact nb _
  · exact NB_int
  · exact NB_int
  · exact NB_int
theorem NB_rows (rows : List Row) : NB 64 (.lst (rows.map rowD)) := by
  have : NB 61 (.lst (rows.map rowD)) := fun d hd => by
    obtain ⟨r, _, rfl⟩ := List.mem_map.mp hd
    exact NB_row r
  exact this.mono (by omega)
theorem NB_nats (l : List Nat) : NB 60 (natsD l) := fun d hd => by
  obtain ⟨i, _, rfl⟩ := List.mem_map.mp hd
  exact NB_int
theorem neD_same {d : D} (h : NB 64 d) : neD d d = some (.sh (.bl false)) := by
  rw [neD_NB h h]
  simp
theorem NB_grps (l : List (List Nat)) : NB 64 (.lst (l.map natsD)) := by
  have : NB 61 (.lst (l.map natsD)) := fun d hd => by
    obtain ⟨g, _, rfl⟩ := List.mem_map.mp hd
    exact NB_nats g
  exact this.mono (by omega)
theorem NB_rowsT (rows : List Row) : NB 64 (.tup (rows.map rowD)) := by
  have := NB_rows rows
  exact this
end KL

end sec_LN
section sec_L5
set_option maxRecDepth 100000
set_option maxHeartbeats 5000000
/-! L5: drawn rows that keep the dependences. -/
namespace KL
open PySem L2 FD
open ST (Up up_eq setN mem_setN up_setN)
local instance tt9 : Tabl := ⟨[]⟩
/-- a drawn row over cs -/
structure Row.Dn (cs : List Nat) (r : Row) : Prop where
  len : r.keys.length = cs.length
  key : ∀ k ∈ r.keys, 0 ≤ k ∧ k ≤ 1000000
  bd : r.Bd
theorem Row.Dn.ok {cs : List Nat} {r : Row} (h : r.Dn cs) : r.Ok cs := ⟨h.len, fun k hk => (h.key k hk).1, h.bd.v1, h.bd.w1⟩
theorem neD_rows_nil (rows : List Row) : neD (.lst (rows.map rowD)) (.lst []) = some (.sh (.bl (!rows.isEmpty))) := by
  have n2 : NB 64 (.lst []) := fun d hd => nomatch hd
  rw [neD_NB (NB_rows rows) n2]
  cases rows <;> simp
theorem brk_nil (cs : List Nat) (ds : List (List Nat × Nat)) : brk cs [] ds = none := brk_none.mpr fun p _ i j hi => absurd hi (by simp)
theorem R_rows {cs : List Nat} {ds : List (List Nat × Nat)} {most b : Nat} {kind : Str} {w : W} {Q : RV → W → Prop} (hkd : kind = "any" ∨ kind = "small") (hC : Col cs) (hd : ∀ p ∈ ds, Dep cs p) (hn : ds.length ≤ 1000) (hm : most ≤ 1000) (h : Okb (b + 2 + 20 * most) w)
    (q : ∀ rows w', (∀ r ∈ rows, r.Dn cs) → rows.length ≤ most → brk cs rows ds = none → Okb b w' → Q (.sh (.lst (rows.map rowD))) w') : Ran (D_law_rows [.draw, planD cs ds, .int most, .str kind] w) Q := by
  refine D_run ?_
  have hc := hC.len
  have p0 : L2.atI [S cs, D.tup (ds.map depD)] 0 = some (S cs) := rfl
  unfold d_law_rows
  refine R_then (fun ρ' w1 => ∃ top : Int, ρ' = [some (.val .draw), some (.val (planD cs ds)), some (.val (.int most)), some (.val (.str kind)), some (.val (.lst [])), some (.val (.int top)), none, none, none, none] ∧ 1 ≤ top ∧ top ≤ 5 ∧ Okb (b + 1 + 20 * most) w1) ?_ ?_
  · simp [startE, R_var]
    refine R_pick (b := b + 1 + 20 * most) (h.mono (by omega)) (by simp) (by simp) fun d w1 hd h1 => ?_
    simp at hd
    simp
    rcases hd with rfl | rfl | rfl
    · exact ⟨2, rfl, by omega, by omega, h1⟩
    · exact ⟨3, rfl, by omega, by omega, h1⟩
    · exact ⟨5, rfl, by omega, by omega, h1⟩
  intro ρ1 w1 hh
  obtain ⟨top, rfl, t1, t2, h1⟩ := hh
  obtain ⟨J, hJ⟩ : ∃ J : Nat → FD.Env → W → Prop, ∀ left ρ w', J left ρ w' ↔ ∃ (rows : List Row) (x6 x7 x8 : Option Slot), ρ = [some (.val .draw), some (.val (planD cs ds)), some (.val (.int most)), some (.val (.str kind)), some (.val (.lst (rows.map rowD))), some (.val (.int top)), x6, x7, x8, none] ∧ (∀ r ∈ rows, r.Dn cs) ∧ rows.length + left ≤ most ∧ brk cs rows ds = none ∧ Okb (b + 20 * left) w' := ⟨_, fun _ _ _ => Iff.rfl⟩
  refine R_then (J 0) ?_ ?_
  · simp [R_var, addD]
    refine R_take (b := b + 20 * most) (n := most + 1) (h1.mono (by omega)) (by omega) (by omega) fun k w2 k0 k1 h2 => ?_
    obtain ⟨n, rfl⟩ := Int.eq_ofNat_of_zero_le k0
    rw [R_range' (by omega)]
    have hnn : ((n : Int)).toNat = n := by simp
    rw [hnn]
    refine R_forLm (fun i : Nat => D.int (i : Int)) (fun rest ρ w => J rest.length ρ w) ?_ (fun ρ w h => by simpa using h) _ _ _ ((hJ _ _ _).mpr ⟨[], _, _, _, rfl, by simp, by simp; omega, brk_nil _ _, h2.mono (by simp; omega)⟩)
    intro i rest ρ w3 hj
    obtain ⟨rows, x6, x7, x8, rfl, hrows, hlen, hbk, h3⟩ := (hJ _ _ _).mp hj
    simp only [List.length_cons] at hlen h3
    simp only [R_gName, List.set_cons_succ, List.set_cons_zero]
    have ok : ∀ r ∈ rows, r.Ok cs := fun r hr => (hrows r hr).ok
    -- keys
    obtain ⟨P1, hP1⟩ : ∃ P : Nat → FD.Env → W → Prop, ∀ c ρ w', P c ρ w' ↔ ∃ ks : List Int, ρ = [some (.val .draw), some (.val (planD cs ds)), some (.val (.int most)), some (.val (.str kind)), some (.val (.lst (rows.map rowD))), some (.val (.int top)), some (.val (.int i)), some (.own (.lst (ks.map D.int))), x8, none] ∧ ks.length = cs.length ∧ (∀ k ∈ ks, 0 ≤ k ∧ k ≤ 1000000) ∧ Okb (b + 20 * rest.length + c) w' := ⟨_, fun _ _ _ => Iff.rfl⟩
    refine R_then (P1 16) ?_ ?_
    · simp [R_var, R_lcM, ixD, p0, iterD_S]
      refine ⟨⟨rfl, by omega⟩, ?_⟩
      obtain ⟨K, hK⟩ : ∃ K : List Nat → List D → W → Prop, ∀ left acc w', K left acc w' ↔ ∃ ks : List Int, acc = ks.map D.int ∧ ks.length + left.length = cs.length ∧ (∀ k ∈ ks, 0 ≤ k ∧ k ≤ 1000000) ∧ Okb (b + 20 * rest.length + 16 + left.length) w' := ⟨_, fun _ _ _ => Iff.rfl⟩
      refine R_lcInv (fun c => S [c]) K ?_ ?_ cs ((hK _ _ _).mpr ⟨[], rfl, by simp, by simp, h3.mono (by omega)⟩)
      · intro c left acc w4 hk
        obtain ⟨ks, rfl, hl, hks, h4⟩ := (hK _ _ _).mp hk
        simp only [List.length_cons] at hl h4
        simp [R_var, wipeE]
        refine R_take (b := b + 20 * rest.length + 16 + left.length) (n := top) (h4.mono (by omega)) (by omega) (by omega) fun k w5 k0 k1 h5 => ?_
        simp [wipeE]
        refine (hK _ _ _).mpr ⟨ks ++ [k], by simp, by simp; omega, fun x hx => ?_, h5⟩
        rcases List.mem_append.mp hx with hx | hx
        · exact hks x hx
        · rw [List.mem_singleton.mp hx]
          omega
      · intro acc w4 hk
        obtain ⟨ks, rfl, hl, hks, h4⟩ := (hK _ _ _).mp hk
        simp [restE, wipeE]
        exact (hP1 _ _ _).mpr ⟨ks, rfl, by simpa using hl, hks, h4.mono (by simp)⟩
    intro ρ4 w4 hp
    refine R_then (P1 14) ?_ ?_
    · obtain ⟨ks, rfl, hl, hks, h4⟩ := (hP1 _ _ _).mp hp
      have ne := neD_rows_nil rows
      cases rows with
      | nil =>
        simp at ne
        simp [R_var, R_lift2g, peek, ne]
        exact (hP1 14 _ _).mpr ⟨ks, rfl, hl, hks, h4.mono (by omega)⟩
      | cons r0 rs =>
        simp at ne
        simp [R_var, R_lift2g, peek, ne]
        refine R_take (b := b + 20 * rest.length + 15) (n := 3) (h4.mono (by omega)) (by omega) (by omega) fun k w5 k0 k1 h5 => ?_
        by_cases hk : k = 0
        · simp [eqD_int, hk, R_var]
          refine R_pick (b := b + 20 * rest.length + 14) (l := (r0 :: rs).map rowD) (h5.mono (by omega)) (by simp) (by simp at hlen ⊢; omega) fun d w6 hd h6 => ?_
          obtain ⟨r, hr, rfl⟩ := List.mem_map.mp hd
          have a0 : L2.atI [nD r.keys, D.int r.x, D.int r.v, D.int r.w] 0 = some (nD r.keys) := rfl
          have dn := hrows r hr
          simp [ixD, a0, R_liftNg, peek, peeks, listD]
          exact (hP1 14 _ _).mpr ⟨r.keys, rfl, dn.len, dn.key, h6⟩
        · simp [eqD_int, hk]
          exact (hP1 14 _ _).mpr ⟨ks, rfl, hl, hks, h5.mono (by omega)⟩
    clear hp ρ4 w4
    intro ρ4 w4 hp
    refine R_then (P1 10) ?_ ?_
    · obtain ⟨ks, rfl, hl, hks, h4⟩ := (hP1 _ _ _).mp hp
      rcases hkd with rfl | rfl
      · have e : eqD (.str "any") (.str "any") = some (.sh (.bl true)) := by
          have : cmpD (.str "any") (.str "any") = some true := by decide +kernel
          simp [eqD, this]
        simp [R_var, e]
        refine R_take (b := b + 20 * rest.length + 13) (n := 12) (h4.mono (by omega)) (by omega) (by omega) fun k w5 k0 k1 h5 => ?_
        by_cases hk : k = 0
        · simp [eqD_int, hk]
          refine R_lput ?_
          simp [R_var, intD, pow6, i0]
          refine R_pick (b := b + 20 * rest.length + 12) (h5.mono (by omega)) (by simp) (by simp) fun d w6 hd h6 => ?_
          obtain ⟨v, rfl, v0, v1⟩ : ∃ v : Int, d = .int v ∧ 0 ≤ v ∧ v ≤ 1000000 := by
            simp at hd
            rcases hd with rfl | rfl | rfl
            · exact ⟨1000000, rfl, by omega, by omega⟩
            · exact ⟨_, rfl, by omega, by omega⟩
            · exact ⟨12, rfl, by omega, by omega⟩
          have hcs : 0 < cs.length := List.length_pos_iff.mpr hC.2
          simp [ownL, R_var, R_own, R_liftNg, peek, peeks, slotD, lenD]
          refine R_take (b := b + 20 * rest.length + 11) (n := ks.length) (h6.mono (by omega)) (by omega) (by omega) fun k w7 k0 k1 h7 => ?_
          obtain ⟨j, rfl⟩ := Int.eq_ofNat_of_zero_le k0
          simp [ownL, peek]
          refine ⟨j, by omega, by omega, ?_⟩
          have es : (ks.map D.int).set j (.int v) = (ks.set j v).map D.int := by simp [List.map_set]
          rw [es]
          refine (hP1 10 _ _).mpr ⟨ks.set j v, rfl, by simp [hl], fun x hx => ?_, h7.mono (by omega)⟩
          rcases List.mem_or_eq_of_mem_set hx with z | z
          · exact hks x z
          · rw [z]
            exact ⟨v0, v1⟩
        · simp [eqD_int, hk]
          exact (hP1 10 _ _).mpr ⟨ks, rfl, hl, hks, h5.mono (by omega)⟩
      · have e : eqD (.str "small") (.str "any") = some (.sh (.bl false)) := by
          have : cmpD (.str "small") (.str "any") = some false := by decide +kernel
          simp [eqD, this]
        simp [R_var, e]
        exact (hP1 10 _ _).mpr ⟨ks, rfl, hl, hks, h4.mono (by omega)⟩
    clear hp ρ4 w4
    intro ρ4 w4 hp
    obtain ⟨ks, rfl, hl, hks, h4⟩ := (hP1 _ _ _).mp hp
    obtain ⟨P2, hP2⟩ : ∃ P : FD.Env → W → Prop, ∀ ρ w', P ρ w' ↔ ∃ (r : Row) (x7 : Option Slot), ρ = [some (.val .draw), some (.val (planD cs ds)), some (.val (.int most)), some (.val (.str kind)), some (.val (.lst (rows.map rowD))), some (.val (.int top)), some (.val (.int i)), x7, some (.own (.lst ((rows ++ [r]).map rowD))), none] ∧ r.Dn cs ∧ Okb (b + 20 * rest.length + 6) w' := ⟨_, fun _ _ => Iff.rfl⟩
    refine R_then P2 ?_ ?_
    · simp [R_var, R_own, R_escow]
      refine R_fitted (ks0 := ks) (w := w4) hC hd hn ok rfl hl fun ks' hl' hfr => ?_
      simp [R_var]
      refine R_row (b := b + 20 * rest.length + 6) hkd h4 fun r w5 hk' hbd h5 => ?_
      have e : addD (.lst (rows.map rowD)) (.lst [rowD r]) = some (.fr (.lst ((rows ++ [r]).map rowD))) := by
        simp [addD]
        omega
      simp [R_lift2g, peek, e, -List.map_append]
      refine (hP2 _ _).mpr ⟨r, _, rfl, ⟨by rw [hk']; exact hl', fun k hk => ?_, hbd⟩, h5⟩
      rw [hk'] at hk
      rcases hfr k hk with z | ⟨r', hr', z⟩
      · exact hks k z
      · exact (hrows r' hr').key k z
    intro ρ5 w5 hp5
    obtain ⟨r, x7', rfl, dn, h5⟩ := (hP2 _ _).mp hp5
    have rows' : ∀ r' ∈ rows ++ [r], r'.Dn cs := fun r' hr' => by
      rcases List.mem_append.mp hr' with z | z
      · exact hrows r' z
      · rw [List.mem_singleton.mp z]
        exact dn
    have be := law_broken_eq (w := w5) hC hd (fun r' hr' => (rows' r' hr').ok) (show (rows ++ [r]).length ≤ 10000 by simp; omega)
    simp [R_var, R_own, R_escow, be, -List.map_append]
    cases hb : brk cs (rows ++ [r]) ds with
    | none =>
      simp [optI, isNonD, R_var, -List.map_append]
      exact (hJ _ _ _).mpr ⟨rows ++ [r], _, _, _, rfl, rows', by simp; omega, hb, h5.mono (by omega)⟩
    | some j =>
      simp [optI, isNonD, -List.map_append]
      exact (hJ _ _ _).mpr ⟨rows, _, _, _, rfl, hrows, by omega, hbk, h5.mono (by omega)⟩
  intro ρ2 w2 hj
  obtain ⟨rows, x6, x7, x8, rfl, hrows, hlen, hbk, h3⟩ := (hJ _ _ _).mp hj
  simp [R_var, outR]
  exact q rows w2 hrows (by simpa using hlen) hbk (h3.mono (by omega))
end KL

end sec_L5
section sec_P12
set_option maxRecDepth 100000
set_option maxHeartbeats 5000000
/-! P12: the start of all draws; a law's run. -/
namespace KL
open PySem L2 FD
open ST (Up up_eq setN mem_setN up_setN)
local instance tl13 : Tabl := ⟨[]⟩
theorem asInts_m {α : Type} (f : α → Int) (l : List α) : asInts (l.map fun a => D.int (f a)) = some (l.map f) := by
  have e : (l.map fun a => D.int (f a)) = (l.map f).map D.int := by simp
  rw [e, asInts_map]
theorem beg_ok {ns : List Int} (h : ns.length ≤ 63) : ∃ wi ci, beg ns = some (wi, ci) ∧ wi.length ≤ 63 ∧ ∀ c ∈ ci, 0 ≤ c ∧ c < 2 ^ 31 := by
  have p18 : powI 10 18 = some (.sh (.int 1000000000000000000)) := by simp [powI]
  have ab : ∀ n : Int, absD [.int n] = some (.sh (.int (n.natAbs : Int))) := fun n => by
    simp only [absD]
    congr 3
    omega
  have h1 : R d1_law_begun (startE 3 [.scr ns]) ⟨[], [], 0, 0⟩ fun fl ρ w => fl = .nx ∧ w = ⟨[], [], 0, 0⟩ ∧ ρ = [some (.val (.scr ns)), some (.own (.lst ((ns.filter fun n => decide (1000000000000000000 ≤ (n.natAbs : Int))).map fun n => D.int (n.natAbs - 1000000000000000000)))), none] := by
    simp [d1_law_begun, startE, R_lcM, R_var, iterD]
    refine ⟨⟨rfl, by omega⟩, R_lcFil D.int (fun n => decide (1000000000000000000 ≤ (n.natAbs : Int))) (fun n => D.int (n.natAbs - 1000000000000000000)) ns (fun n hn => ?_) ?_⟩
    · simp [R_var, wipeE, R_liftN, peeks, peek, ab, intD, p18, i0]
      by_cases hc : (1000000000000000000 : Int) ≤ n.natAbs
      · simp [hc, R_var, R_liftN, peeks, peek, ab, intD, p18, i0]
      · simp [hc]
        omega
    · simp [wipeE, restE]
  have h2 : R d2_law_begun [some (.val (.scr ns)), some (.own (.lst ((ns.filter fun n => decide (1000000000000000000 ≤ (n.natAbs : Int))).map fun n => D.int (n.natAbs - 1000000000000000000)))), none] ⟨[], [], 0, 0⟩ fun r ρ w => r = .fr (.lst (ns.map fun n => D.int ((n.natAbs : Int) % 2147483629))) ∧ ρ = [some (.val (.scr ns)), some (.own (.lst ((ns.filter fun n => decide (1000000000000000000 ≤ (n.natAbs : Int))).map fun n => D.int (n.natAbs - 1000000000000000000)))), none] := by
    simp [d2_law_begun, startE, R_lcM, R_var, iterD]
    refine ⟨⟨rfl, by omega⟩, R_lcMap D.int (fun n => D.int ((n.natAbs : Int) % 2147483629)) ns (fun n hn => ?_) ?_⟩
    · simp [R_var, wipeE, R_liftN, peeks, peek, ab, intD, intFD, modI]
    · simp [wipeE, restE]
  obtain ⟨fl, ρ, w, e1, rfl, rfl, rfl⟩ := h1
  obtain ⟨r, ρ2, w2, e2, rfl, rfl⟩ := h2
  refine ⟨(ns.filter fun n => decide (1000000000000000000 ≤ (n.natAbs : Int))).map fun n => (n.natAbs : Int) - 1000000000000000000, ns.map fun n => (n.natAbs : Int) % 2147483629, ?_, ?_, ?_⟩
  · unfold beg begD
    rw [e1]
    simp only [e2, ownL, List.getElem?_cons_succ, List.getElem?_cons_zero, asInts_m]
  · rw [List.length_map]
    exact Nat.le_trans (List.length_filter_le _ _) h
  · intro c hc
    obtain ⟨n, _, rfl⟩ := List.mem_map.mp hc
    have := Int.emod_nonneg (n.natAbs : Int) (by decide : (2147483629 : Int) ≠ 0)
    have := Int.emod_lt_of_pos (n.natAbs : Int) (by decide : (0 : Int) < 2147483629)
    omega
theorem law_run {n : Nat} {d : M Fl} (h : ∀ ns w, ns.length ≤ 63 → Okb (2 ^ 38) w → R d ((startE n [.scr ns]).set 1 (some (.val .draw))) w fun fl _ _ => fl = .ret (.sh (.bl true))) : ∀ ns : List Int, ns.length ≤ 63 → denL n beg d ns = true := by
  intro ns hns
  obtain ⟨wi, ci, e, h1, h2⟩ := beg_ok hns
  obtain ⟨fl, ρ', w', e2, rfl⟩ := h ns ⟨wi, ci, 0, 0⟩ hns ⟨by simp, by simp, h2, by simp; omega⟩
  unfold denL
  rw [e]
  simp only [e2, endT]
/-- repr of truth values -/
theorem ne_self {s : Str} (h : ∀ c ∈ s.cps.toList, c < 0x110000) : neD (.str s) (.str s) = some (.sh (.bl false)) := by
  rw [neD_NB (a := .str s) (b := .str s) h h]
  simp
theorem repr3 (a b c : Bool) : ∃ s, reprD [.lst [.bl a, .bl b, .bl c]] = some (.sh (.str s)) ∧ neD (.str s) (.str s) = some (.sh (.bl false)) := by
  cases a <;> cases b <;> cases c <;> exact ⟨_, rfl, ne_self (by decide +kernel)⟩
theorem repr2 (a b : Bool) : ∃ s, reprD [.lst [.bl a, .bl b]] = some (.sh (.str s)) ∧ neD (.str s) (.str s) = some (.sh (.bl false)) := by
  cases a <;> cases b <;> exact ⟨_, rfl, ne_self (by decide +kernel)⟩
end KL

end sec_P12
section sec_LW
set_option maxRecDepth 100000
set_option maxHeartbeats 5000000
/-! LW: the law's own within. -/
namespace KL
open PySem L2 FD
open ST (Up up_eq setN mem_setN up_setN)
local instance tlw : Tabl := ⟨[]⟩
theorem law_is_within_eq {a b : List Nat} {w : W} (ha : a.length ≤ 1000000) (hc : CpOk a) : D_law_is_within [S a, S b] w = some (.sh (.bl (a.all fun c => decide (c ∈ b))), w) := by
  refine D_eq ?_
  simp [d_law_is_within, startE, R_var, R_lcM, iterD_S]
  refine ⟨⟨rfl, ha⟩, R_lcFil (fun c => S [c]) (fun c => !decide (c ∈ b)) (fun c => S [c]) a (fun c hc => ?_) ?_⟩
  · by_cases h : c ∈ b <;> simp [R_var, inS_S, wipeE, h]
  · have e : ((a.filter fun c => !decide (c ∈ b)).map fun c => S [c]) = ((a.filter fun c => !decide (c ∈ b)).map fun c => [c]).map S := by simp
    have e2 := eqD_nil (l := (a.filter fun c => !decide (c ∈ b)).map fun c => [c]) fun x hx => by
      obtain ⟨c, h1, rfl⟩ := List.mem_map.mp hx
      intro y hy
      rw [List.mem_singleton.mp hy]
      exact hc c (List.mem_filter.mp h1).1
    rw [← e] at e2
    simp [R_lift2g, peek, e2, outR]
    rw [Bool.eq_iff_iff]
    simp
end KL

end sec_LW
section sec_LS
set_option maxRecDepth 100000
set_option maxHeartbeats 5000000
/-! LS: the law's own list of sets. -/
namespace KL
open PySem L2 FD
open ST (Up up_eq setN mem_setN up_setN)
local instance tls : Tabl := ⟨[]⟩
theorem law_sets_eq {cs : List Nat} {w : W} (hC : Col cs) : D_law_sets [S cs] w = some (.fr (.lst ((sets cs).map S)), w) := by
  refine D_eq ?_
  have hc := hC.len
  simp [d_law_sets, startE, R_var, lit_e, lit_r, addD_S (show cs.length + [114].length ≤ 1000000 by simp; omega), R_iter, iterD_S, -List.map_append]
  obtain ⟨J, hJ⟩ : ∃ J : List Nat → FD.Env → W → Prop, ∀ rest ρ w', J rest ρ w' ↔ (w' = w ∧ ∃ acc x2, ρ = [some (.val (S cs)), some (.own (.lst (acc.map S))), x2, none] ∧ subsG acc rest = subsF (cs ++ [114]) ∧ acc.length * 2 ^ rest.length ≤ 32 ∧ rest.length ≤ 5 ∧ ∀ x ∈ acc, x.length + rest.length ≤ 5) := ⟨_, fun _ _ _ => Iff.rfl⟩
  refine R_forLm (fun c => S [c]) J ?_ ?_ (cs ++ [114]) _ _ ((hJ _ _ _).mpr ⟨rfl, [[]], _, rfl, rfl, ?_, by simp; omega, by simp; omega⟩)
  · intro c rest ρ w' h
    obtain ⟨rfl, acc, x2, rfl, h1, h2, h3, h4⟩ := (hJ _ _ _).mp h
    have h5 : acc.length ≤ 32 := Nat.le_trans (Nat.le_mul_of_pos_right _ (Nat.two_pow_pos _)) h2
    simp [R_own, R_lcM, R_escow, iterD]
    refine ⟨⟨rfl, by omega⟩, R_lcMap S (fun x => S (x ++ [c])) acc (fun x hx => ?_) ?_⟩
    · have := h4 x hx
      simp only [List.length_cons] at this
      simp [R_var, wipeE, addD_S (show x.length + [c].length ≤ 1000000 by simp; omega)]
    · have e : (acc.map S ++ acc.map fun x => S (x ++ [c])) = (acc ++ acc.map (· ++ [c])).map S := by simp
      have e2 : addD (.lst (acc.map S)) (.lst (acc.map fun x => S (x ++ [c]))) = some (.fr (.lst ((acc ++ acc.map (· ++ [c])).map S))) := by
        rw [← e]
        simp [addD]
        omega
      simp [R_lift2g, peek, slotD, restE, wipeE, e2, -List.map_append]
      refine (hJ _ _ _).mpr ⟨rfl, acc ++ acc.map (· ++ [c]), _, rfl, h1, ?_, ?_, ?_⟩
      · simp only [List.length_append, List.length_map]
        rw [List.length_cons, Nat.pow_succ] at h2
        rw [← Nat.mul_two, Nat.mul_assoc, Nat.mul_comm 2]
        exact h2
      · simp only [List.length_cons] at h3
        omega
      · intro x hx
        rcases List.mem_append.mp hx with hx | hx
        · have := h4 x hx
          simp only [List.length_cons] at this
          omega
        · obtain ⟨y, hy, rfl⟩ := List.mem_map.mp hx
          have := h4 y hy
          simp only [List.length_cons] at this
          simp
          omega
  · intro ρ w' h
    obtain ⟨rfl, acc, x2, rfl, h1, h2, h3, h4⟩ := (hJ _ _ _).mp h
    have e : acc = subsF (cs ++ [114]) := h1
    subst e
    have nd : ((subsF (cs ++ [114])).map st).Nodup := by
      refine List.Pairwise.map _ (fun a b h => ?_) (subs_nodup hC)
      exact fun e => h (st_inj.mp e)
    have e3 : sortedD [.lst ((subsF (cs ++ [114])).map S)] = some (.fr (.lst ((sortS ((subsF (cs ++ [114])).map st)).map D.str))) := by
      simp [sortedD, asStrs_S]
    have e4 : textsD (.lst ((sortS ((subsF (cs ++ [114])).map st)).map D.str)) = some (sortS ((subsF (cs ++ [114])).map st)) := asStrs_map _
    simp [R_own, R_lift1g, R_liftNg, peek, peeks, slotD, e3, e4, byLen1_sortS nd]
    refine ⟨_, ⟨fun a ha => ?_, rfl⟩, by simp [outR, sets, map_S_cps]⟩
    have ha2 : a ∈ (subsF (cs ++ [114])).map st := (List.mergeSort_perm _ _).subset ha
    obtain ⟨b, hb, rfl⟩ := List.mem_map.mp ha2
    have := h4 b hb
    simp at this
    rw [st_len]
    omega
  · have : 2 ^ (cs ++ [114]).length ≤ 2 ^ 5 := Nat.pow_le_pow_right (by decide) (by simp; omega)
    simpa using this
end KL

end sec_LS
section sec_K07a
set_option maxRecDepth 100000
set_option maxHeartbeats 5000000
/-! K07a: what the law of closures and tables asks, piece by piece. -/
namespace KL
open PySem L2 FD
open ST (Up up_eq setN mem_setN up_setN)
local instance tk7 : Tabl := ⟨[]⟩
theorem isqS {cs : List Nat} {dd : D} : isiD (fun _ => true) icq_Scheme (schD cs dd) = some true := by
  simp [isiD, icq_Scheme]
theorem with_more_eq {cs : List Nat} {ds es : List (List Nat × Nat)} {w : W} (hC : Col cs) (hd : ∀ p ∈ ds, Dep cs p) (he : ∀ p ∈ es, Dep cs p) (hl : ds.length + es.length ≤ 20) : D_Scheme_with_more [sch cs ds, .lst (es.map depD)] w = some (.sh (sch cs (ds ++ es)), w) := by
  refine D_eq ?_
  have n1 := need_dependences_eq (w := w) hC he (by omega) (d := .lst (es.map depD)) (.inr rfl)
  have s1 := Scheme_eq (w := w) (ds := ds ++ es) (d := .tup ((ds ++ es).map depD)) hC (fun p hp => by
    rcases List.mem_append.mp hp with z | z
    · exact hd p z
    · exact he p z) (by simp; omega) (Or.inl rfl)
  rw [List.map_append] at s1
  have hg : ¬ (20 : Int) < (ds.length : Int) + es.length := by omega
  have hz : ds.length + es.length ≤ 1000000 := by omega
  simp [d_Scheme_with_more, startE, R_var, fld_c, fld_d, n1, R_liftNg, peek, peeks, lenD, addD, intD, i0, hg, seqD, hz, s1, outR]
theorem law_common_eq {xs : List (List Nat)} {l : List Nat} {w : W} (hx : xs.length ≤ 1000) (hcp : ∀ x ∈ xs, CpOk x) (hl : l.length ≤ 1000) : D_law_common [.lst (xs.map S), S l] w = some (.sh (S (l.filter fun c => xs.all fun x => decide (c ∈ x))), w) := by
  refine D_eq ?_
  simp [d_law_common, startE, R_var, R_lcM, iterD_S]
  refine ⟨⟨rfl, by omega⟩, R_lcFil (fun c => S [c]) (fun c => xs.all fun x => decide (c ∈ x)) (fun c => S [c]) l (fun c hc => ?_) ?_⟩
  · simp [R_var, R_lcM, iterD, wipeE]
    refine ⟨⟨rfl, by omega⟩, R_lcFil S (fun x => !decide (c ∈ x)) S xs (fun x hx => ?_) ?_⟩
    · by_cases h : c ∈ x <;> simp [R_var, inS_S, h, wipeE]
    · have e := eqD_nil (l := xs.filter fun x => !decide (c ∈ x)) fun x hx => hcp x (List.mem_filter.mp hx).1
      have e2 : decide ((xs.filter fun x => !decide (c ∈ x)) = []) = xs.all fun x => decide (c ∈ x) := by
        rw [Bool.eq_iff_iff]
        simp
      rw [e2] at e
      by_cases h : ∀ x ∈ xs, c ∈ x
      · have h' : (xs.all fun x => decide (c ∈ x)) = true := by simpa using h
        rw [h'] at e
        simp [R_lift2g, peek, e, restE, wipeE, R_var]
        exact h
      · have h' : (xs.all fun x => decide (c ∈ x)) = false := by simpa using h
        rw [h'] at e
        simp [R_lift2g, peek, e, restE, wipeE, R_var]
        simpa using h
  · have hs : (l.filter fun c => xs.all fun x => decide (c ∈ x)).length ≤ l.length := List.length_filter_le _ _
    simp [R_lift1g, peek, lit_e, joinD_signs (show (l.filter fun c => xs.all fun x => decide (c ∈ x)).length ≤ 1000000 by omega), outR]
/-- the closure is what all closed sets around have in common -/
theorem common_cl {cs : List Nat} {ds : List (List Nat × Nat)} {l : List Nat} (hC : Col cs) (hd : ∀ p ∈ ds, Dep cs p) (hl : Set_ cs l) : (cs ++ [114]).filter (fun c => ((closed cs ds).filter fun f => l.all fun x => decide (x ∈ f)).all fun f => decide (c ∈ f)) = cl cs ds l := by
  refine up_eq (hC.up.sublist List.filter_sublist) (cl_up hC) fun c => ?_
  have hm : c ∈ cl cs ds l ↔ InCl cs ds l c := mem_cl hd fun x hx => hl.subset hx
  rw [List.mem_filter]
  simp only [List.all_eq_true, List.mem_filter, decide_eq_true_eq]
  constructor
  · rintro ⟨_, h⟩
    refine h (cl cs ds l) ⟨?_, cl_base hd hl⟩
    exact List.mem_filter.mpr ⟨mem_sets.mpr cl_set, by simpa using cl_cl hC hd hl⟩
  · intro h
    refine ⟨cl_set.subset h, fun f hf => ?_⟩
    obtain ⟨h1, h2⟩ := List.mem_filter.mp hf.1
    have fs := mem_sets.mp h1
    exact (hm.mp h).le ((cl_fix hC hd fs).mp (by simpa using h2)) hf.2
theorem mem_closed {cs : List Nat} {ds : List (List Nat × Nat)} (hC : Col cs) (hd : ∀ p ∈ ds, Dep cs p) {f : List Nat} : f ∈ closed cs ds ↔ Set_ cs f ∧ Cld cs ds f := by
  unfold closed
  rw [List.mem_filter, mem_sets]
  constructor
  · rintro ⟨h1, h2⟩
    exact ⟨h1, (cl_fix hC hd h1).mp (by simpa using h2)⟩
  · rintro ⟨h1, h2⟩
    exact ⟨h1, by simpa using (cl_fix hC hd h1).mpr h2⟩
theorem closed_len {cs : List Nat} {ds : List (List Nat × Nat)} (hC : Col cs) : (closed cs ds).length ≤ 32 := Nat.le_trans (List.length_filter_le _ _) (sets_len hC)
theorem closed_ne {cs : List Nat} {ds : List (List Nat × Nat)} (hC : Col cs) (hd : ∀ p ∈ ds, Dep cs p) : closed cs ds ≠ [] := fun e => by
  have h : cl cs ds [] ∈ closed cs ds := List.mem_filter.mpr ⟨mem_sets.mpr cl_set, by simpa using cl_cl hC hd (List.nil_sublist _)⟩
  rw [e] at h
  cases h
theorem more_closed {cs : List Nat} {ds : List (List Nat × Nat)} {l : List Nat} {c : Nat} (hC : Col cs) (hd : ∀ p ∈ ds, Dep cs p) (hl : Set_ cs l) (hc : c ∈ cl cs ds l) : EqS cs ds cs (ds ++ [(l, c)]) := by
  refine ⟨rfl, ?_⟩
  have hc' : InCl cs ds l c := (mem_cl hd fun x hx => hl.subset hx).mp hc
  unfold closed
  congr 1
  funext m
  have e : cl cs ds m = cl cs (ds ++ [(l, c)]) m := cl_same (fun p hp m hm => .dep (List.mem_append_left _ hp) hm) (fun p hp m hm => by
    rcases List.mem_append.mp hp with z | z
    · exact .dep z hm
    · rw [List.mem_singleton.mp z] at hm ⊢
      exact hc'.trans hm)
  rw [e]
/-- x in a list of texts -/
theorem toPys_S (xs : List (List Nat)) : toPys (xs.map S) = some (xs.map fun x => .str (st x)) := by
  induction xs with
  | nil => rfl
  | cons x xs ih =>
    rw [List.map_cons]
    simp only [toPys, toPy, ih]
    rfl
theorem inL_S {no : Bool} {x : List Nat} {xs : List (List Nat)} (hx : CpOk x) (hxs : ∀ y ∈ xs, CpOk y) : inL no (S x) (.lst (xs.map S)) = some (.sh (.bl (if no then !decide (x ∈ xs) else decide (x ∈ xs)))) := by
  have sh : SeqAt.shaped (.list (xs.map fun x => PyData.str (st x))) = true := by
    have n1 : NB 64 (.lst (xs.map S)) := fun d hd => by
      obtain ⟨z, h1, rfl⟩ := List.mem_map.mp hd
      exact NB_S (hxs z h1)
    obtain ⟨p, e, h2, h3⟩ := n1.py
    simp only [toPy, toPys_S] at e
    cases e
    simp [SeqAt.shaped, h2, h3]
  have any : ((xs.map fun x => PyData.str (st x)).any fun z => PyData.eqv z (.str (st x))) = decide (x ∈ xs) := by
    rw [Bool.eq_iff_iff, List.any_map, List.any_eq_true]
    simp only [Function.comp, eqv_refl_str, decide_eq_true_eq]
    constructor
    · rintro ⟨y, hy, rfl⟩
      exact hy
    · intro h
      exact ⟨x, h, rfl⟩
  simp only [inL, toPy, toPys_S, Option.map_some, shaped_str hx, sh, and_self, if_true, any]
end KL

end sec_K07a
section sec_K07b
set_option maxRecDepth 100000
set_option maxHeartbeats 5000000
/-! K07b: the law of closures and tables. -/
namespace KL
open PySem L2 FD
open ST (Up up_eq setN mem_setN up_setN)
local instance tk7b : Tabl := ⟨[]⟩
theorem no_cl {cs : List Nat} {dd : D} : List.lookup ("closure" : Str) (schF cs dd) = none := by
  have n1 : (("closure" : Str) == ("own_columns" : Str)) = false := by decide +kernel
  have n2 : (("closure" : Str) == ("own_dependences" : Str)) = false := by decide +kernel
  simp [List.lookup_cons, n1, n2]
theorem no_wm {cs : List Nat} {dd : D} : List.lookup ("with_more" : Str) (schF cs dd) = none := by
  have n1 : (("with_more" : Str) == ("own_columns" : Str)) = false := by decide +kernel
  have n2 : (("with_more" : Str) == ("own_dependences" : Str)) = false := by decide +kernel
  simp [List.lookup_cons, n1, n2]
theorem law_true : ∀ ns : List Int, ns.length ≤ 63 → (∀ z ∈ ns, Builtin.Int.intBits z ≤ 1048576) → law ns = true := by
  intro ns h1 _
  refine law_run (fun ns w hns hb => ?_) ns h1
  have hm : minD [.int (ns.length : Int), .int 8] = some (.sh (.int (if (8 : Int) < ns.length then 8 else ns.length))) := rfl
  simp [d_law, startE, R_var, R_liftN, peeks, peek, lenD, hm, addD]
  rw [R_range' (by split <;> omega)]
  obtain ⟨J, hJ⟩ : ∃ J : List Nat → FD.Env → W → Prop, ∀ rest ρ w', J rest ρ w' ↔ ∃ (x2 x3 x4 x5 x6 x7 x8 x9 x10 : Option Slot) (y11 : Option D) (x12 x13 x14 : Option Slot), ρ = [some (.val (.scr ns)), some (.val .draw), x2, x3, x4, x5, x6, x7, x8, x9, x10, y11.map Slot.val, x12, x13, x14, none] ∧ rest.length ≤ 20 ∧ Okb (2000 * rest.length) w' := ⟨_, fun _ _ _ => Iff.rfl⟩
  refine R_forLm (fun i : Nat => D.int (i : Int)) J ?_ ?_ _ _ _ ((hJ _ _ _).mpr ⟨none, none, none, none, none, none, none, none, none, none, none, none, none, rfl, by simp; split <;> omega, hb.mono (by simp; split <;> omega)⟩)
  · intro i rest ρ w' hj
    obtain ⟨x2, x3, x4, x5, x6, x7, x8, x9, x10, y11, x12, x13, x14, rfl, hl, hb⟩ := (hJ _ _ _).mp hj
    simp only [List.length_cons] at hl hb
    simp only [R_gName, List.set_cons_succ, List.set_cons_zero, List.set_nil]
    obtain ⟨P, hP⟩ : ∃ P : FD.Env → W → Prop, ∀ ρ w, P ρ w ↔ ∃ cs ds, ρ = [some (.val (.scr ns)), some (.val .draw), some (.val (.int i)), some (.val (planD cs ds)), x4, x5, x6, x7, x8, x9, x10, y11.map Slot.val, x12, x13, x14, none] ∧ Col cs ∧ (∀ p ∈ ds, Dep cs p) ∧ ds.length ≤ 4 ∧ Okb (2000 * rest.length + 1800) w := ⟨_, fun _ _ => Iff.rfl⟩
    refine R_then P ?_ ?_
    · simp [R_var]
      refine R_drawn (b := 2000 * rest.length + 1800) (m := 4) (t := 4) (hb.mono (by omega)) (by omega) (by omega) (by omega) (by omega) fun cs ds w1 hC _ hd hdl h1 => ?_
      simp
      exact (hP _ _).mpr ⟨cs, ds, rfl, hC, hd, hdl, h1⟩
    intro ρ1 w1 hp1
    obtain ⟨cs, ds, rfl, hC, hd, hdl, h1⟩ := (hP _ _).mp hp1
    have hc := hC.len
    have a0 : L2.atI [S cs, D.tup (ds.map depD)] 0 = some (S cs) := rfl
    have a1 : L2.atI [S cs, D.tup (ds.map depD)] 1 = some (D.tup (ds.map depD)) := rfl
    have s1 := fun w => Scheme_eq (w := w) hC hd (by omega) (Or.inl rfl)
    have c1 := fun w => closed_sets_eq (w := w) hC hd
    refine R_then (fun ρ' w' => w1 = w' ∧ ρ' = [some (.val (.scr ns)), some (.val .draw), some (.val (.int i)), some (.val (planD cs ds)), x4, x5, x6, some (.val (sch cs ds)), some (.own (.lst ((closed cs ds).map S))), x9, x10, y11.map Slot.val, x12, x13, x14, none]) ?_ ?_
    · simp [R_var, ixD, a0, a1, s1, R_self, no_m, c1]
    rintro _ _ ⟨rfl, rfl⟩
    obtain ⟨P1, hP1⟩ : ∃ P : FD.Env → W → Prop, ∀ ρ w, P ρ w ↔ ∃ rows, ρ = [some (.val (.scr ns)), some (.val .draw), some (.val (.int i)), some (.val (planD cs ds)), some (.val (tab cs rows)), x5, x6, some (.val (sch cs ds)), some (.own (.lst ((closed cs ds).map S))), x9, x10, y11.map Slot.val, x12, x13, x14, none] ∧ (∀ r ∈ rows, r.Ok cs) ∧ rows.length ≤ 12 ∧ brk cs rows ds = none ∧ Okb (2000 * rest.length + 1500) w := ⟨_, fun _ _ => Iff.rfl⟩
    refine R_then P1 ?_ ?_
    · simp [R_var, ixD, a0]
      refine R_rows (b := 2000 * rest.length + 1500) (most := 12) (.inr rfl) hC hd (by omega) (by omega) (h1.mono (by omega)) fun rows w2 hr hrl hbk h2 => ?_
      have ok : ∀ r ∈ rows, r.Ok cs := fun r h => (hr r h).ok
      have t1 := Table_eq (w := w2) (d := .lst (rows.map rowD)) hC ok (.inr rfl)
      simp [t1]
      exact (hP1 _ _).mpr ⟨rows, rfl, ok, hrl, hbk, h2⟩
    clear h1
    intro ρ2 w2 hp2
    obtain ⟨rows, rfl, hr, hrl, hbk, h2⟩ := (hP1 _ _).mp hp2
    have hkp := brk_none.mp hbk
    obtain ⟨K, hK⟩ : ∃ K : Nat → FD.Env → W → Prop, ∀ n ρ w, K n ρ w ↔ ∃ (x5 x6 x9 x10 : Option Slot) (y11 : Option D) (x12 x13 x14 : Option Slot) (s8 : Slot), ρ = [some (.val (.scr ns)), some (.val .draw), some (.val (.int i)), some (.val (planD cs ds)), some (.val (tab cs rows)), x5, x6, some (.val (sch cs ds)), some s8, x9, x10, y11.map Slot.val, x12, x13, x14, none] ∧ (s8 = .own (.lst ((closed cs ds).map S)) ∨ s8 = .val (.lst ((closed cs ds).map S))) ∧ Okb (2000 * rest.length + n) w := ⟨_, fun _ _ _ => Iff.rfl⟩
    refine R_then (K 1000) ?_ ?_
    · have ls := law_sets_eq (w := w2) hC
      simp [R_var, ixD, a0, ls, iterD]
      obtain ⟨K2, hK2⟩ : ∃ K2 : List (List Nat) → FD.Env → W → Prop, ∀ left ρ w, K2 left ρ w ↔ (∀ l ∈ left, Set_ cs l) ∧ K (1000 + left.length) ρ w := ⟨_, fun _ _ _ => Iff.rfl⟩
      refine R_forLm S K2 ?_ (fun ρ w h => ⟨rfl, ((hK2 _ _ _).mp h).2⟩) (sets cs) _ _ ((hK2 _ _ _).mpr ⟨fun l hl => mem_sets.mp hl, (hK _ _ _).mpr ⟨x5, x6, x9, x10, y11, x12, x13, x14, _, rfl, .inl rfl, h2.mono (by have := sets_len hC; omega)⟩⟩)
      clear h2 hp2 hP1 hP
      intro l left ρ3 w3 hk
      obtain ⟨hs, hk⟩ := (hK2 _ _ _).mp hk
      obtain ⟨x5, x6, x9, x10, y11, x12, x13, x14, s8, rfl, h8, h3⟩ := (hK _ _ _).mp hk
      have hl := hs l List.mem_cons_self
      have hll := hl.len hC
      simp only [List.length_cons] at h3
      simp only [R_gName, List.set_cons_succ, List.set_cons_zero, List.set_nil]
      refine R_then (fun ρ' w' => w3 = w' ∧ ρ' = [some (.val (.scr ns)), some (.val .draw), some (.val (.int i)), some (.val (planD cs ds)), some (.val (tab cs rows)), some (.val (S l)), x6, some (.val (sch cs ds)), some (.val (.lst ((closed cs ds).map S))), some (.own (.lst (((closed cs ds).filter fun f => l.all fun x => decide (x ∈ f)).map S))), x10, y11.map Slot.val, x12, x13, x14, none]) ?_ ?_
      · have hcl := closed_len (ds := ds) hC
        have turn : ∀ (ρ : FD.Env), ρ = [some (.val (.scr ns)), some (.val .draw), some (.val (.int i)), some (.val (planD cs ds)), some (.val (tab cs rows)), some (.val (S l)), x6, some (.val (sch cs ds)), some (.val (.lst ((closed cs ds).map S))), x9, x10, y11.map Slot.val, x12, x13, x14, none] → R (lcL [15] (gNameM 15) (boolM (callM D_law_is_within [] (consA (varM 5) (consA (varM 15) (pureM []))))) (varM 15) ((closed cs ds).map S)) ρ w3 fun ys ρ2 w2 => ys = ((closed cs ds).filter fun f => l.all fun x => decide (x ∈ f)).map S ∧ ρ2 = ρ ∧ w2 = w3 := by
          rintro _ rfl
          refine R_lcFil S (fun f => l.all fun x => decide (x ∈ f)) S (closed cs ds) (fun f hf => ?_) ⟨rfl, rfl, rfl⟩
          have lw := law_is_within_eq (a := l) (b := f) (w := w3) (by omega) (hl.cp hC)
          by_cases q : (l.all fun x => decide (x ∈ f)) = true
          · rw [q] at lw
            simp only [q, if_true]
            simp [R_var, lw, wipeE]
          · have q' : (l.all fun x => decide (x ∈ f)) = false := by simpa using q
            rw [q'] at lw
            simp only [q', Bool.false_eq_true, if_false]
            simp [R_var, lw, wipeE]
        obtain ⟨ys, ρ5, w5, e5, rfl, rfl, rfl⟩ := turn _ rfl
        rcases h8 with rfl | rfl
        · simp only [R_bind, R_lcM, R_iterM]
          simp [R_own, R_escow, iterD]
          refine ⟨⟨rfl, by omega⟩, _, _, _, e5, ?_⟩
          simp [restE, wipeE]
        · simp only [R_bind, R_lcM, R_iterM]
          simp [R_var, iterD]
          refine ⟨⟨rfl, by omega⟩, _, _, _, e5, ?_⟩
          simp [restE, wipeE]
      rintro _ _ ⟨rfl, rfl⟩
      have clo := Scheme_closure_eq (w := w3) hC hd hl
      have clo2 := Scheme_closure_eq (w := w3) hC hd (cl_set (cs := cs) (ds := ds) (l := l))
      rw [cl_cl hC hd hl] at clo2
      have hcl := (cl_set (cs := cs) (ds := ds) (l := l)).len hC
      have ccp : CpOk (cl cs ds l) := cl_set.cp hC
      refine R_then (fun ρ' w' => w3 = w' ∧ ρ' = [some (.val (.scr ns)), some (.val .draw), some (.val (.int i)), some (.val (planD cs ds)), some (.val (tab cs rows)), some (.val (S l)), x6, some (.val (sch cs ds)), some (.val (.lst ((closed cs ds).map S))), some (.own (.lst (((closed cs ds).filter fun f => l.all fun x => decide (x ∈ f)).map S))), some (.val (S (cl cs ds l))), y11.map Slot.val, x12, x13, x14, none]) ?_ ?_
      · simp [R_var, R_self, no_cl, clo]
      rintro _ _ ⟨rfl, rfl⟩
      have lc := law_common_eq (xs := (closed cs ds).filter fun f => l.all fun x => decide (x ∈ f)) (l := cs ++ [114]) (w := w3) (by have := closed_len (ds := ds) hC; have := List.length_filter_le (fun f => l.all fun x => decide (x ∈ f)) (closed cs ds); omega) (fun x hx => closed_cp hC x (List.mem_filter.mp hx).1) (by simp; omega)
      rw [common_cl hC hd hl] at lc
      have ne := neD_S ccp ccp
      simp at ne
      refine R_then (fun ρ' w' => w3 = w' ∧ ρ' = [some (.val (.scr ns)), some (.val .draw), some (.val (.int i)), some (.val (planD cs ds)), some (.val (tab cs rows)), some (.val (S l)), x6, some (.val (sch cs ds)), some (.val (.lst ((closed cs ds).map S))), some (.val (.lst (((closed cs ds).filter fun f => l.all fun x => decide (x ∈ f)).map S))), some (.val (S (cl cs ds l))), y11.map Slot.val, x12, x13, x14, none]) ?_ ?_
      · simp [R_var, R_own, R_escow, ixD, a0, lit_r, addr hC, lc, ne, R_self, no_cl, clo2]
      rintro _ _ ⟨rfl, rfl⟩
      have g1 := groups_eq (w := w3) hC hl hr (by omega)
      have g2 := groups_eq (w := w3) hC (cl_set (cs := cs) (ds := ds) (l := l)) hr (by omega)
      rw [← grps_cl hd hr hkp hl] at g2
      refine R_then (fun ρ' w' => w3 = w' ∧ ρ' = [some (.val (.scr ns)), some (.val .draw), some (.val (.int i)), some (.val (planD cs ds)), some (.val (tab cs rows)), some (.val (S l)), x6, some (.val (sch cs ds)), some (.val (.lst ((closed cs ds).map S))), some (.val (.lst (((closed cs ds).filter fun f => l.all fun x => decide (x ∈ f)).map S))), some (.val (S (cl cs ds l))), y11.map Slot.val, x12, x13, x14, none]) ?_ ?_
      · simp [R_var, R_self, no_groups, g1, g2, R_lift2g, peek, neD_same (NB_grps _)]
      rintro _ _ ⟨rfl, rfl⟩
      obtain ⟨P4, hP4⟩ : ∃ P : FD.Env → W → Prop, ∀ ρ w, P ρ w ↔ ∃ c, ρ = [some (.val (.scr ns)), some (.val .draw), some (.val (.int i)), some (.val (planD cs ds)), some (.val (tab cs rows)), some (.val (S l)), x6, some (.val (sch cs ds)), some (.val (.lst ((closed cs ds).map S))), some (.val (.lst (((closed cs ds).filter fun f => l.all fun x => decide (x ∈ f)).map S))), some (.val (S (cl cs ds l))), some (.val (S [c])), x12, x13, x14, none] ∧ (cl cs ds l ≠ [] → c ∈ cl cs ds l) ∧ Okb (2000 * rest.length + (1000 + left.length)) w := ⟨_, fun _ _ => Iff.rfl⟩
      refine R_then P4 ?_ ?_
      · have tr : truD (S (cl cs ds l)) = some (decide (cl cs ds l ≠ [])) := by
          have e : (st (cl cs ds l)).length = (cl cs ds l).length := st_len _
          simp only [truD, e]
          rw [if_pos (by omega)]
          congr 1
          rw [Bool.eq_iff_iff]
          simp
        by_cases q : cl cs ds l = []
        · have tr' : truD (S []) = some false := by simpa [q] using tr
          rw [q]
          simp [R_var, tr', lit_r, R_liftNg, peek, peeks, listD_S (show [114].length ≤ 1000000 by simp)]
          refine R_pick (b := 2000 * rest.length + (1000 + left.length)) (h3.mono (by omega)) (by simp) (by simp) fun d w6 hd h6 => ?_
          rw [List.mem_singleton.mp hd]
          simp
          exact (hP4 _ _).mpr ⟨114, by rw [q], fun z => absurd q z, h6⟩
        · have tr' : truD (S (cl cs ds l)) = some true := by simpa [q] using tr
          simp [R_var, tr', R_liftNg, peek, peeks, listD_S (show (cl cs ds l).length ≤ 1000000 by omega)]
          refine R_pick (b := 2000 * rest.length + (1000 + left.length)) (h3.mono (by omega)) (by simpa using q) (by simp; omega) fun d w6 hd h6 => ?_
          obtain ⟨c, hc', rfl⟩ := List.mem_map.mp hd
          simp
          exact (hP4 _ _).mpr ⟨c, rfl, fun _ => hc', h6⟩
      intro ρ6 w6 hp6
      obtain ⟨c, rfl, hcc, h6⟩ := (hP4 _ _).mp hp6
      have fin : K2 left [some (.val (.scr ns)), some (.val .draw), some (.val (.int i)), some (.val (planD cs ds)), some (.val (tab cs rows)), some (.val (S l)), x6, some (.val (sch cs ds)), some (.val (.lst ((closed cs ds).map S))), some (.val (.lst (((closed cs ds).filter fun f => l.all fun x => decide (x ∈ f)).map S))), some (.val (S (cl cs ds l))), some (.val (S [c])), x12, x13, x14, none] w6 := (hK2 _ _ _).mpr ⟨fun x hx => hs x (List.mem_cons_of_mem _ hx), (hK _ _ _).mpr ⟨_, _, _, _, some (S [c]), _, _, _, _, rfl, .inr rfl, h6⟩⟩
      have ne2 := neD_S ccp (m := []) (fun x hx => nomatch hx)
      by_cases q : cl cs ds l = []
      · have ne3 : neD (S (cl cs ds l)) (S []) = some (.sh (.bl false)) := by simpa [q] using ne2
        simp [R_var, lit_e, ne3]
        exact fin
      · have ne3 : neD (S (cl cs ds l)) (S []) = some (.sh (.bl true)) := by simpa [q] using ne2
        have hc' := hcc q
        have wm := with_more_eq (w := w6) (es := [(l, c)]) hC hd (fun p hp => by
          rw [List.mem_singleton.mp hp]
          exact ⟨hl, cl_set.subset hc'⟩) (by simp; omega)
        simp only [List.map_cons, List.map_nil] at wm
        have es := Scheme_eqS (w := w6) hC hd hC (ds' := ds ++ [(l, c)]) (fun p hp => by
          rcases List.mem_append.mp hp with z | z
          · exact hd p z
          · rw [List.mem_singleton.mp z]
            exact ⟨hl, cl_set.subset hc'⟩)
        have et : @decide (EqS cs ds cs (ds ++ [(l, c)])) (Classical.propDecidable _) = true := by simpa using more_closed hC hd hl hc'
        rw [et] at es
        simp [R_var, lit_e, ne3, R_self, no_wm, wm, isqS, es]
        exact fin
    clear h2 hp2
    intro ρ3 w3 hk
    refine R_then (K 0) ?_ ?_
    · simp only [R_for, R_bind, R_consA, R_pure]
      rw [R_range' (by omega)]
      refine R_forLm (fun i : Nat => D.int (i : Int)) (fun left ρ w => left.length ≤ 6 ∧ K (100 * left.length) ρ w) ?_ (fun ρ w h => ⟨rfl, by simpa using h.2⟩) _ _ _ ⟨by simp, ?_⟩
      · rintro lap left ρ4 w4 ⟨h6, hk⟩
        obtain ⟨x5, x6, x9, x10, y11, x12, x13, x14, s8, rfl, h8, h4⟩ := (hK _ _ _).mp hk
        simp only [List.length_cons] at h4 h6
        simp only [R_gName, List.set_cons_succ, List.set_cons_zero, List.set_nil]
        obtain ⟨P5, hP5⟩ : ∃ P : FD.Env → W → Prop, ∀ ρ w, P ρ w ↔ ∃ f g, ρ = [some (.val (.scr ns)), some (.val .draw), some (.val (.int i)), some (.val (planD cs ds)), some (.val (tab cs rows)), some (.val (S f)), some (.val (.int lap)), some (.val (sch cs ds)), some (.val (.lst ((closed cs ds).map S))), x9, x10, y11.map Slot.val, x12, x13, some (.val (S g)), none] ∧ f ∈ closed cs ds ∧ g ∈ closed cs ds ∧ Okb (2000 * rest.length + (100 * left.length + 98)) w := ⟨_, fun _ _ => Iff.rfl⟩
        have hcl := closed_len (ds := ds) hC
        have hne := closed_ne hC hd
        refine R_then P5 ?_ ?_
        · rcases h8 with rfl | rfl
          · simp [R_var, R_own, R_escow]
            refine R_pick (b := 2000 * rest.length + (100 * left.length + 99)) (h4.mono (by omega)) (by simpa using hne) (by simp; omega) fun d w5 hd5 h5 => ?_
            obtain ⟨f, hf, rfl⟩ := List.mem_map.mp hd5
            simp [R_var]
            refine R_pick (b := 2000 * rest.length + (100 * left.length + 98)) h5 (by simpa using hne) (by simp; omega) fun d w6 hd6 h6 => ?_
            obtain ⟨g, hg, rfl⟩ := List.mem_map.mp hd6
            simp
            exact (hP5 _ _).mpr ⟨f, g, rfl, hf, hg, h6⟩
          · simp [R_var]
            refine R_pick (b := 2000 * rest.length + (100 * left.length + 99)) (h4.mono (by omega)) (by simpa using hne) (by simp; omega) fun d w5 hd5 h5 => ?_
            obtain ⟨f, hf, rfl⟩ := List.mem_map.mp hd5
            simp [R_var]
            refine R_pick (b := 2000 * rest.length + (100 * left.length + 98)) h5 (by simpa using hne) (by simp; omega) fun d w6 hd6 h6 => ?_
            obtain ⟨g, hg, rfl⟩ := List.mem_map.mp hd6
            simp
            exact (hP5 _ _).mpr ⟨f, g, rfl, hf, hg, h6⟩
        intro ρ5 w5 hp5
        obtain ⟨f, g, rfl, hf, hg, h5⟩ := (hP5 _ _).mp hp5
        obtain ⟨fs, fc⟩ := (mem_closed hC hd).mp hf
        obtain ⟨gs, gc⟩ := (mem_closed hC hd).mp hg
        have hfl := fs.len hC
        have iset : Set_ cs (f.filter fun c => decide (c ∈ g)) := List.filter_sublist.trans fs
        have im : (f.filter fun c => decide (c ∈ g)) ∈ closed cs ds := (mem_closed hC hd).mpr ⟨iset, fc.inter gc⟩
        have inl := inL_S (no := true) (x := f.filter fun c => decide (c ∈ g)) (xs := closed cs ds) (iset.cp hC) (closed_cp hC)
        simp only [im, decide_true, if_true, Bool.not_true] at inl
        refine R_then (fun ρ' w' => w5 = w' ∧ ρ' = [some (.val (.scr ns)), some (.val .draw), some (.val (.int i)), some (.val (planD cs ds)), some (.val (tab cs rows)), some (.val (S f)), some (.val (.int lap)), some (.val (sch cs ds)), some (.val (.lst ((closed cs ds).map S))), x9, x10, y11.map Slot.val, x12, x13, some (.val (S g)), none]) ?_ ?_
        · simp only [R_ifM, R_bool, R_op2, R_strM, R_lcM, R_bind, R_pure]
          simp [R_var, iterD_S, lit_e]
          have il : (f.filter fun c => decide (c ∈ g)).length ≤ f.length := List.length_filter_le _ _
          refine ⟨⟨by cases y11 <;> rfl, by omega⟩, R_lcFil (fun c => S [c]) (fun c => decide (c ∈ g)) (fun c => S [c]) f (fun c hc' => ?_) ?_⟩
          · by_cases q : c ∈ g <;> simp [R_var, inS_S, q, wipeE]
          · simp [R_lift1g, peek, joinD_signs (show (f.filter fun c => decide (c ∈ g)).length ≤ 1000000 by omega), restE, wipeE, R_var, inl]
        rintro _ _ ⟨rfl, rfl⟩
        obtain ⟨P6, hP6⟩ : ∃ P : FD.Env → W → Prop, ∀ ρ w, P ρ w ↔ ∃ lo, ρ = [some (.val (.scr ns)), some (.val .draw), some (.val (.int i)), some (.val (planD cs ds)), some (.val (tab cs rows)), some (.val (S f)), some (.val (.int lap)), some (.val (sch cs ds)), some (.val (.lst ((closed cs ds).map S))), x9, x10, y11.map Slot.val, some (.val (S lo)), x13, some (.val (S g)), none] ∧ Set_ cs lo ∧ Okb (2000 * rest.length + (100 * left.length + 90)) w := ⟨_, fun _ _ => Iff.rfl⟩
        refine R_then P6 ?_ ?_
        · simp [R_var, ixD, a0, lit_r, addr hC]
          refine R_letters (b := 2000 * rest.length + (100 * left.length + 90)) (h5.mono (by simp; omega)) (by simp; omega) fun lo w6 hlo h6 => ?_
          simp
          exact (hP6 _ _).mpr ⟨lo, rfl, hlo, h6⟩
        intro ρ6 w6 hp6
        obtain ⟨lo, rfl, hlo, h6⟩ := (hP6 _ _).mp hp6
        have hlol := hlo.len hC
        obtain ⟨P7, hP7⟩ : ∃ P : FD.Env → W → Prop, ∀ ρ w, P ρ w ↔ ∃ wd, ρ = [some (.val (.scr ns)), some (.val .draw), some (.val (.int i)), some (.val (planD cs ds)), some (.val (tab cs rows)), some (.val (S f)), some (.val (.int lap)), some (.val (sch cs ds)), some (.val (.lst ((closed cs ds).map S))), x9, x10, y11.map Slot.val, some (.val (S lo)), some (.val (S wd)), some (.val (S g)), none] ∧ Set_ cs wd ∧ (∀ x ∈ lo, x ∈ wd) ∧ Okb (2000 * rest.length + (100 * left.length + 80)) w := ⟨_, fun _ _ => Iff.rfl⟩
        refine R_then P7 ?_ ?_
        · simp [R_var, ixD, a0, lit_r, lit_e, addr hC]
          refine R_letters (b := 2000 * rest.length + (100 * left.length + 80)) (h6.mono (by simp; omega)) (by simp; omega) fun mo w7 hmo h7 => ?_
          have hmo' : Set_ cs mo := hmo
          have hml := hmo'.len hC
          have ad := addD_S (l := lo) (m := mo) (by omega)
          have sl := setN_len (lo ++ mo)
          simp at sl
          simp [ad, sset_S, R_lift1g, peek, joinD_signs (show (setN (lo ++ mo)).length ≤ 1000000 by omega), show lo.length + mo.length < 4000 by omega]
          refine (hP7 _ _).mpr ⟨setN (lo ++ mo), rfl, sub_of_up (up_setN _) hC.up fun x hx => ?_, fun x hx => mem_setN.mpr (List.mem_append_left _ hx), h7⟩
          rcases List.mem_append.mp (mem_setN.mp hx) with z | z
          · exact hlo.subset z
          · exact hmo'.subset z
        intro ρ7 w7 hp7
        obtain ⟨wd, rfl, hwd, hsub, h7⟩ := (hP7 _ _).mp hp7
        have k1 := Scheme_closure_eq (w := w7) hC hd hlo
        have k2 := Scheme_closure_eq (w := w7) hC hd hwd
        have k3 := law_is_within_eq (a := cl cs ds lo) (b := cl cs ds wd) (w := w7) (by have := (cl_set (cs := cs) (ds := ds) (l := lo)).len hC; omega) (cl_set.cp hC)
        have k4 : ((cl cs ds lo).all fun c => decide (c ∈ cl cs ds wd)) = true := by
          simp only [List.all_eq_true, decide_eq_true_eq]
          exact cl_mono hd hlo hwd hsub
        rw [k4] at k3
        simp [R_var, R_self, no_cl, k1, k2, k3]
        exact ⟨by omega, (hK _ _ _).mpr ⟨_, _, _, _, y11, _, _, _, _, rfl, .inr rfl, h7.mono (by omega)⟩⟩
      · obtain ⟨x5, x6, x9, x10, y11, x12, x13, x14, s8, rfl, h8, h3⟩ := (hK _ _ _).mp hk
        exact (hK _ _ _).mpr ⟨_, _, _, _, y11, _, _, _, _, rfl, h8, h3.mono (by simp)⟩
    clear hk
    intro ρ4 w4 hk
    obtain ⟨x5, x6, x9, x10, y11, x12, x13, x14, s8, rfl, h8, h4⟩ := (hK _ _ _).mp hk
    have bk := broken_eq (w := w4) hC hd hr (by omega)
    rw [hbk] at bk
    simp [R_var, R_self, no_broken, bk, optI, isNonD]
    exact (hJ _ _ _).mpr ⟨_, _, _, _, _, _, _, _, _, y11, _, _, _, rfl, by omega, h4⟩
  · intro ρ w' hj
    obtain ⟨x2, x3, x4, x5, x6, x7, x8, x9, x10, y11, x12, x13, x14, rfl, hl, hb⟩ := (hJ _ _ _).mp hj
    simp
end KL

end sec_K07b
section sec_End
open PySem PySem.W PyProof.Rows
set_option maxRecDepth 100000 in
set_option maxHeartbeats 0 in
theorem PySem.Challenge.cw_meanways_k07_whole_closures_and_tables_holds : PySem.Challenge.rw_meanways_k07_whole_closures_and_tables.Holds := by
  w_on; o_law; k_head; (case hw => w_witness2)
  k_fill
  refine LG.walkG (l := PySem.Challenge.rw_meanways_k07_whole_closures_and_tables) (n := 63) (k := 9) (x := "_law_script") rfl (by decide) rfl ⟨rfl, by decide, by decide⟩ (fun w h Y => PySem.W.km_in_of Y) ?F
  case F =>
    intro w mg fa h Y KX G hmg
    refine' KL.asm KX G hmg ?aC_Scheme ?aC_Table ?pg_Scheme ?hd_Scheme ?po_Scheme ?sa_Scheme ?mk_Scheme ?kc_Scheme ?ha_Scheme ?mr_Scheme ?na_Scheme_own_columns ?na_Scheme_own_dependences ?ne_Scheme ?so_Scheme ?nf_Scheme_NoneType ?nf_Scheme_bool ?nf_Scheme_int ?nf_Scheme_str ?nf_Scheme_tuple ?nf_Scheme_list ?nf_Scheme_dict ?nfi_Scheme_Scheme ?nfi_Scheme_Table ?pg_Table ?hd_Table ?po_Table ?sa_Table ?mk_Table ?kc_Table ?ha_Table ?mr_Table ?na_Table_own_columns ?na_Table_own_rows ?hn0 ?ht0 ?kk_str_Scheme ?kk_str_Table ?kk_list_tuple_Scheme ?kk_list_tuple_Table ?kk_tuple_Scheme ?kk_tuple_Table ?ki_Scheme_NoneType ?ki_Scheme_bool ?ki_Scheme_int ?ki_Scheme_str ?ki_Scheme_tuple ?ki_Scheme_list ?ki_Scheme_dict ?kk_Scheme_Scheme ?kk_Scheme_Table ?kk_bool_Scheme ?kk_bool_Table ?kk_int_Scheme ?kk_int_Table ?z_abs ?z_all ?z_bool ?z_enumerate ?z_int ?z_isinstance ?z_len ?z_list ?z_min ?z_range ?z_set ?z_sorted ?z_str ?z_tuple ?z_zip ?g_ALL_COLUMNS ?g_MOST_DEPENDENCES ?g_ROW ?a_law_begun ?l_law_begun ?c_law_begun ?k_law_begun ?a_Scheme_dependences ?pg_Scheme_dependences ?pt_Scheme_dependences ?pr_Scheme_dependences ?l_Scheme_dependences ?c_Scheme_dependences ?k_Scheme_dependences ?a_Table_columns ?pg_Table_columns ?pt_Table_columns ?pr_Table_columns ?l_Table_columns ?c_Table_columns ?k_Table_columns ?a_Table_rows ?pg_Table_rows ?pt_Table_rows ?pr_Table_rows ?l_Table_rows ?c_Table_rows ?k_Table_rows ?a_name_at ?l_name_at ?c_name_at ?k_name_at ?a_rises ?l_rises ?c_rises ?k_rises ?a_is_set ?l_is_set ?c_is_set ?k_is_set ?a_need_set ?l_need_set ?c_need_set ?k_need_set ?a_Table_groups ?i_Table_groups ?l_Table_groups ?c_Table_groups ?k_Table_groups ?a_Table_keeps ?i_Table_keeps ?l_Table_keeps ?c_Table_keeps ?k_Table_keeps ?a_Scheme_columns ?pg_Scheme_columns ?pt_Scheme_columns ?pr_Scheme_columns ?l_Scheme_columns ?c_Scheme_columns ?k_Scheme_columns ?a_Table_broken ?i_Table_broken ?l_Table_broken ?c_Table_broken ?k_Table_broken ?a_law_is_within ?l_law_is_within ?c_law_is_within ?k_law_is_within ?a_within ?l_within ?c_within ?k_within ?a_joined ?l_joined ?c_joined ?k_joined ?a_closure_of ?l_closure_of ?c_closure_of ?k_closure_of ?a_Scheme_closure ?i_Scheme_closure ?l_Scheme_closure ?c_Scheme_closure ?k_Scheme_closure ?a_law_mixed ?l_law_mixed ?c_law_mixed ?k_law_mixed ?a_law_take ?l_law_take ?c_law_take ?k_law_take ?a_law_letters ?l_law_letters ?c_law_letters ?k_law_letters ?a_law_pick ?l_law_pick ?c_law_pick ?k_law_pick ?a_law_sets ?l_law_sets ?c_law_sets ?k_law_sets ?a_is_dependence ?l_is_dependence ?c_is_dependence ?k_is_dependence ?a_need_dependences ?l_need_dependences ?c_need_dependences ?k_need_dependences ?a_is_columns ?l_is_columns ?c_is_columns ?k_is_columns ?a_need_columns ?l_need_columns ?c_need_columns ?k_need_columns ?a_Scheme_init ?i_Scheme_init ?l_Scheme_init ?c_Scheme_init ?k_Scheme_init ?lT_Scheme_init ?dT_Scheme_init ?lE_Scheme_init ?cE_Scheme_init ?dE_Scheme_init ?a_Scheme_with_more ?i_Scheme_with_more ?l_Scheme_with_more ?c_Scheme_with_more ?k_Scheme_with_more ?a_sets_of ?l_sets_of ?c_sets_of ?k_sets_of ?a_Scheme_closed_sets ?i_Scheme_closed_sets ?l_Scheme_closed_sets ?c_Scheme_closed_sets ?k_Scheme_closed_sets ?a_Scheme_eq ?i_Scheme_eq ?l_Scheme_eq ?c_Scheme_eq ?k_Scheme_eq ?a_law_common ?l_law_common ?c_law_common ?k_law_common ?a_is_number ?l_is_number ?c_is_number ?k_is_number ?a_is_row ?l_is_row ?c_is_row ?k_is_row ?a_need_rows ?l_need_rows ?c_need_rows ?k_need_rows ?a_Table_init ?i_Table_init ?l_Table_init ?c_Table_init ?k_Table_init ?a_law_named ?l_law_named ?c_law_named ?k_law_named ?a_law_broken ?l_law_broken ?c_law_broken ?k_law_broken ?a_law_row ?l_law_row ?c_law_row ?k_law_row ?a_law_fitted ?l_law_fitted ?c_law_fitted ?k_law_fitted ?a_law_rows ?l_law_rows ?c_law_rows ?k_law_rows ?a_law_columns ?l_law_columns ?c_law_columns ?k_law_columns ?a_law_drawn ?l_law_drawn ?c_law_drawn ?k_law_drawn ?a_law ?l_law ?c_law ?k_law ?ch ?nT (PySem.W.km_tabs_of Y) KL.law_true
    (case aC_Scheme => k_is)
    (case aC_Table => k_is)
    (case pg_Scheme => k_is)
    (case hd_Scheme => k_is)
    (case po_Scheme => k_is)
    (case sa_Scheme => k_is)
    (case mk_Scheme => k_is)
    (case kc_Scheme => k_is)
    (case ha_Scheme => k_is)
    (case mr_Scheme => k_is)
    (case na_Scheme_own_columns => k_is)
    (case na_Scheme_own_dependences => k_is)
    (case ne_Scheme => k_is)
    (case so_Scheme => k_is)
    (case nf_Scheme_NoneType => k_is)
    (case nf_Scheme_bool => k_is)
    (case nf_Scheme_int => k_is)
    (case nf_Scheme_str => k_is)
    (case nf_Scheme_tuple => k_is)
    (case nf_Scheme_list => k_is)
    (case nf_Scheme_dict => k_is)
    (case nfi_Scheme_Scheme => k_is)
    (case nfi_Scheme_Table => k_is)
    (case pg_Table => k_is)
    (case hd_Table => k_is)
    (case po_Table => k_is)
    (case sa_Table => k_is)
    (case mk_Table => k_is)
    (case kc_Table => k_is)
    (case ha_Table => k_is)
    (case mr_Table => k_is)
    (case na_Table_own_columns => k_is)
    (case na_Table_own_rows => k_is)
    (case hn0 => k_is)
    (case ht0 => k_is)
    (case kk_str_Scheme => kernel_rfl)
    (case kk_str_Table => kernel_rfl)
    (case kk_list_tuple_Scheme => kernel_rfl)
    (case kk_list_tuple_Table => kernel_rfl)
    (case kk_tuple_Scheme => kernel_rfl)
    (case kk_tuple_Table => kernel_rfl)
    (case ki_Scheme_NoneType => kernel_rfl)
    (case ki_Scheme_bool => kernel_rfl)
    (case ki_Scheme_int => kernel_rfl)
    (case ki_Scheme_str => kernel_rfl)
    (case ki_Scheme_tuple => kernel_rfl)
    (case ki_Scheme_list => kernel_rfl)
    (case ki_Scheme_dict => kernel_rfl)
    (case kk_Scheme_Scheme => kernel_rfl)
    (case kk_Scheme_Table => kernel_rfl)
    (case kk_bool_Scheme => kernel_rfl)
    (case kk_bool_Table => kernel_rfl)
    (case kk_int_Scheme => kernel_rfl)
    (case kk_int_Table => kernel_rfl)
    (case z_abs => k_is)
    (case z_all => k_is)
    (case z_bool => k_is)
    (case z_enumerate => k_is)
    (case z_int => k_is)
    (case z_isinstance => k_is)
    (case z_len => k_is)
    (case z_list => k_is)
    (case z_min => k_is)
    (case z_range => k_is)
    (case z_set => k_is)
    (case z_sorted => k_is)
    (case z_str => k_is)
    (case z_tuple => k_is)
    (case z_zip => k_is)
    (case g_ALL_COLUMNS => k_is)
    (case g_MOST_DEPENDENCES => k_is)
    (case g_ROW => k_is)
    (case a_law_begun => k_is)
    (case l_law_begun => k_is)
    (case c_law_begun => k_is)
    (case k_law_begun => k_is)
    (case a_Scheme_dependences => k_is)
    (case pg_Scheme_dependences => k_is)
    (case pt_Scheme_dependences => k_is)
    (case pr_Scheme_dependences => k_is)
    (case l_Scheme_dependences => k_is)
    (case c_Scheme_dependences => k_is)
    (case k_Scheme_dependences => k_is)
    (case a_Table_columns => k_is)
    (case pg_Table_columns => k_is)
    (case pt_Table_columns => k_is)
    (case pr_Table_columns => k_is)
    (case l_Table_columns => k_is)
    (case c_Table_columns => k_is)
    (case k_Table_columns => k_is)
    (case a_Table_rows => k_is)
    (case pg_Table_rows => k_is)
    (case pt_Table_rows => k_is)
    (case pr_Table_rows => k_is)
    (case l_Table_rows => k_is)
    (case c_Table_rows => k_is)
    (case k_Table_rows => k_is)
    (case a_name_at => k_is)
    (case l_name_at => k_is)
    (case c_name_at => k_is)
    (case k_name_at => k_is)
    (case a_rises => k_is)
    (case l_rises => k_is)
    (case c_rises => k_is)
    (case k_rises => k_is)
    (case a_is_set => k_is)
    (case l_is_set => k_is)
    (case c_is_set => k_is)
    (case k_is_set => k_is)
    (case a_need_set => k_is)
    (case l_need_set => k_is)
    (case c_need_set => k_is)
    (case k_need_set => k_is)
    (case a_Table_groups => k_is)
    (case i_Table_groups => k_is)
    (case l_Table_groups => k_is)
    (case c_Table_groups => k_is)
    (case k_Table_groups => k_is)
    (case a_Table_keeps => k_is)
    (case i_Table_keeps => k_is)
    (case l_Table_keeps => k_is)
    (case c_Table_keeps => k_is)
    (case k_Table_keeps => k_is)
    (case a_Scheme_columns => k_is)
    (case pg_Scheme_columns => k_is)
    (case pt_Scheme_columns => k_is)
    (case pr_Scheme_columns => k_is)
    (case l_Scheme_columns => k_is)
    (case c_Scheme_columns => k_is)
    (case k_Scheme_columns => k_is)
    (case a_Table_broken => k_is)
    (case i_Table_broken => k_is)
    (case l_Table_broken => k_is)
    (case c_Table_broken => k_is)
    (case k_Table_broken => k_is)
    (case a_law_is_within => k_is)
    (case l_law_is_within => k_is)
    (case c_law_is_within => k_is)
    (case k_law_is_within => k_is)
    (case a_within => k_is)
    (case l_within => k_is)
    (case c_within => k_is)
    (case k_within => k_is)
    (case a_joined => k_is)
    (case l_joined => k_is)
    (case c_joined => k_is)
    (case k_joined => k_is)
    (case a_closure_of => k_is)
    (case l_closure_of => k_is)
    (case c_closure_of => k_is)
    (case k_closure_of => k_is)
    (case a_Scheme_closure => k_is)
    (case i_Scheme_closure => k_is)
    (case l_Scheme_closure => k_is)
    (case c_Scheme_closure => k_is)
    (case k_Scheme_closure => k_is)
    (case a_law_mixed => k_is)
    (case l_law_mixed => k_is)
    (case c_law_mixed => k_is)
    (case k_law_mixed => k_is)
    (case a_law_take => k_is)
    (case l_law_take => k_is)
    (case c_law_take => k_is)
    (case k_law_take => k_is)
    (case a_law_letters => k_is)
    (case l_law_letters => k_is)
    (case c_law_letters => k_is)
    (case k_law_letters => k_is)
    (case a_law_pick => k_is)
    (case l_law_pick => k_is)
    (case c_law_pick => k_is)
    (case k_law_pick => k_is)
    (case a_law_sets => k_is)
    (case l_law_sets => k_is)
    (case c_law_sets => k_is)
    (case k_law_sets => k_is)
    (case a_is_dependence => k_is)
    (case l_is_dependence => k_is)
    (case c_is_dependence => k_is)
    (case k_is_dependence => k_is)
    (case a_need_dependences => k_is)
    (case l_need_dependences => k_is)
    (case c_need_dependences => k_is)
    (case k_need_dependences => k_is)
    (case a_is_columns => k_is)
    (case l_is_columns => k_is)
    (case c_is_columns => k_is)
    (case k_is_columns => k_is)
    (case a_need_columns => k_is)
    (case l_need_columns => k_is)
    (case c_need_columns => k_is)
    (case k_need_columns => k_is)
    (case a_Scheme_init => k_is)
    (case i_Scheme_init => k_is)
    (case l_Scheme_init => k_is)
    (case c_Scheme_init => k_is)
    (case k_Scheme_init => k_is)
    (case lT_Scheme_init => k_is)
    (case dT_Scheme_init => exact rfl)
    (case lE_Scheme_init => k_is)
    (case cE_Scheme_init => exact rfl)
    (case dE_Scheme_init => exact rfl)
    (case a_Scheme_with_more => k_is)
    (case i_Scheme_with_more => k_is)
    (case l_Scheme_with_more => k_is)
    (case c_Scheme_with_more => k_is)
    (case k_Scheme_with_more => k_is)
    (case a_sets_of => k_is)
    (case l_sets_of => k_is)
    (case c_sets_of => k_is)
    (case k_sets_of => k_is)
    (case a_Scheme_closed_sets => k_is)
    (case i_Scheme_closed_sets => k_is)
    (case l_Scheme_closed_sets => k_is)
    (case c_Scheme_closed_sets => k_is)
    (case k_Scheme_closed_sets => k_is)
    (case a_Scheme_eq => k_is)
    (case i_Scheme_eq => k_is)
    (case l_Scheme_eq => k_is)
    (case c_Scheme_eq => k_is)
    (case k_Scheme_eq => k_is)
    (case a_law_common => k_is)
    (case l_law_common => k_is)
    (case c_law_common => k_is)
    (case k_law_common => k_is)
    (case a_is_number => k_is)
    (case l_is_number => k_is)
    (case c_is_number => k_is)
    (case k_is_number => k_is)
    (case a_is_row => k_is)
    (case l_is_row => k_is)
    (case c_is_row => k_is)
    (case k_is_row => k_is)
    (case a_need_rows => k_is)
    (case l_need_rows => k_is)
    (case c_need_rows => k_is)
    (case k_need_rows => k_is)
    (case a_Table_init => k_is)
    (case i_Table_init => k_is)
    (case l_Table_init => k_is)
    (case c_Table_init => k_is)
    (case k_Table_init => k_is)
    (case a_law_named => k_is)
    (case l_law_named => k_is)
    (case c_law_named => k_is)
    (case k_law_named => k_is)
    (case a_law_broken => k_is)
    (case l_law_broken => k_is)
    (case c_law_broken => k_is)
    (case k_law_broken => k_is)
    (case a_law_row => k_is)
    (case l_law_row => k_is)
    (case c_law_row => k_is)
    (case k_law_row => k_is)
    (case a_law_fitted => k_is)
    (case l_law_fitted => k_is)
    (case c_law_fitted => k_is)
    (case k_law_fitted => k_is)
    (case a_law_rows => k_is)
    (case l_law_rows => k_is)
    (case c_law_rows => k_is)
    (case k_law_rows => k_is)
    (case a_law_columns => k_is)
    (case l_law_columns => k_is)
    (case c_law_columns => k_is)
    (case k_law_columns => k_is)
    (case a_law_drawn => k_is)
    (case l_law_drawn => k_is)
    (case c_law_drawn => k_is)
    (case k_law_drawn => k_is)
    (case a_law => k_is)
    (case l_law => k_is)
    (case c_law => k_is)
    (case k_law => k_is)
    (case ch => kernel_rfl)
    (case nT => kernel_rfl)

end sec_End
