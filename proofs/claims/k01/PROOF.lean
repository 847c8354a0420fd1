import PyProof.Rows.All
import Wide.All
import OpenK.AllK
import Wide.FinOn
import HandS.ForMost
import HandS.Evl
import HandS.Lambda
import HandS.ExcValue
import HandS.IsInst
import HandS.TupAny
import HandS.Wide
import HandS.Property
import HandS.Defaults
import HandS.Style
import HandS.Set
import HandS.SetFor
import HandS.SetTxt0
import HandS.TupSets
import PyProof.Rows.SortShellAny
import PyProof.CollectStr
import HandS.SortKw
import HandS.List
import KE.SortKeyHeap
import HandS.Text
import HandS.SlotsOwn
import OpenK.KMake
import PyProof.InstEq
import HandS.Iter
import KE.GoesMore
import PyProof.EnumMake
import HandS.Dict
import PyProof.ReprRoads
import PyProof.ListStr
import HandS.Words
import HandS.EndTab
import HandS.Replace
import HandS.TupLen
import HandS.DictComp
import PyProof.DictFindH
import HandS.Conv
import KE.KDictCopyH
import HandS.Star
import HandS.Deep
import HandS.Flow
import PyProof.CallFns
import KE.SortData
import HandS.NoneIn
import HandS.ExcInit
import HandS.ExcOwn
import KE.KExcIs
import HandS.ExcField
import HandS.ExcIs
import PySem.Challenge.RW_meanways_k01_errors_made
set_option Elab.async false
set_option linter.all false
section sec_FD1
set_option maxRecDepth 100000
set_option maxHeartbeats 5000000
/-! FD1: plain data D, how the abstract heap holds it (Rep), the state of a running def as plain data (SR), the judgements FE, FT, FA, FS. -/
namespace FD
open PySem L2

structure Ct where
  K : PySem.W.Frag
  mg : Str → Option Value
/-- where the draws' dict, its list of wide numbers and its list of cells stand -/
structure Dr where
  at_ : Option (Addr × Addr × Addr)
  cl : List Int
def Dr.da (d : Dr) : Option Addr := d.at_.map (·.1)
/-- the tables of the code objects of the defs that make lambdas -/
structure LamSyn where
  q : Str
  params : Arguments
  body : Expr
  scope : Scope
  N : List Str
class Tabl where
  T : List (Addr × Str)
  L : Nat → Option LamSyn := fun _ => none
variable [Tabl]
def Dr.ds (d : Dr) : List Addr := match d.at_ with
  | some t => [t.1, t.2.1, t.2.2]
  | none => []
def Dr.as (d : Dr) : List Addr := d.ds ++ Tabl.T.map (·.1)
theorem Dr.tab {d : Dr} {p : Addr × Str} (h : p ∈ Tabl.T) : p.1 ∈ d.as := List.mem_append_right _ (List.mem_map.mpr ⟨p, h, rfl⟩)
theorem Dr.mem1 {d : Dr} {t : Addr × Addr × Addr} (h : d.at_ = some t) : t.1 ∈ d.as := List.mem_append_left _ (by simp [Dr.ds, h])
theorem Dr.mem2 {d : Dr} {t : Addr × Addr × Addr} (h : d.at_ = some t) : t.2.1 ∈ d.as := List.mem_append_left _ (by simp [Dr.ds, h])
theorem Dr.mem3 {d : Dr} {t : Addr × Addr × Addr} (h : d.at_ = some t) : t.2.2 ∈ d.as := List.mem_append_left _ (by simp [Dr.ds, h])

inductive D where
  | non | bl (b : Bool) | int (i : Int) | str (x : Str) | ty (n : String) | draw
  | tup (xs : List D) | ktup (xs : List D) | lst (xs : List D) | dic (kvs : List (D × D)) | dit (kvs : List (D × D)) | fdit (kvs : List (D × D)) | ins (c : Str) (fs : List (Str × D)) | scr (ns : List Int) | exc (c : Str) (fs : List (Str × D)) | lam (i : Nat) (ds : List D)
  deriving Inhabited

def kD : Key → D
  | .inl i => .int i
  | .inr x => .str x

/-- all that F tracks, G tracks too -/
def Ex (F G : Hp) : Prop := ∀ b u, F b = some u → G b = some u
theorem Ex.refl (F : Hp) : Ex F F := fun _ _ => id
theorem Ex.trans {F G J : Hp} (p : Ex F G) (q : Ex G J) : Ex F J := fun b u z => q b u (p b u z)
theorem Ex.new {F : Hp} {p : Addr} {o : HO} (n : F p = none) : Ex F (upd F p o) := fun b u z => (upd_ne (ne_of_none z n)).trans z
theorem Ex.rd {H H' : Hp} {a : Addr} {u : HO} (e : Ex H H') (h : Rd H a u) : Rd H' a u := by
  rcases h with h | ⟨o, h⟩
  · exact Or.inl (e a _ h)
  · exact Or.inr ⟨o, e a _ h⟩
theorem Ex.sl {K : PySem.W.Frag} {H H' : Hp} {a : Addr} {xs : List V} (e : Ex H H') (h : SqL K H a xs) : SqL K H' a xs := by
  rcases h with h | h
  · exact Or.inl (e.rd h)
  · exact Or.inr h
theorem Ex.st {K : PySem.W.Frag} {H H' : Hp} {a : Addr} {xs : List V} (e : Ex H H') (h : SqT K H a xs) : SqT K H' a xs := by
  rcases h with h | h
  · exact Or.inl (e.rd h)
  · exact Or.inr h
theorem Ex.free {H H' : Hp} {p : Addr} (e : Ex H H') (h : H' p = none) : H p = none := by
  cases h1 : H p with
  | none => rfl
  | some o =>
    rw [e p o h1] at h
    cases h

/-- an exception of the class at C, caught, its dict at dx -/
def EXO (a C dx : Addr) : HO := .ext fun h => ∃ (oe : PySem.Obj) (vs : Array Value), h.get? a = some oe ∧ oe.cls = .ref C ∧ oe.dict = some dx ∧ oe.data = .fields vs
/-- an object that stays as it is -/
def StO (a : Addr) (o : PySem.Obj) : HO := .ext fun h => h.get? a = some o
/-- the cells of a lambda, and what they hold -/
structure LCells (G : Hp) (l : LamSyn) (cl : List (Str × Addr)) (vs : List V) : Prop where
  inj : ∀ x y c, cl.lookup x = some c → cl.lookup y = some c → x = y
  at_ : ∀ x c, cl.lookup x = some c → ∃ o v, G c = some (StO c o) ∧ o.data = .cell v
  has : ∀ y, l.scope.names.lookup y = some .free → ∃ c, cl.lookup y = some c
  val : ∀ (j : Nat) (x : Str) (v : V), l.N[j]? = some x → vs[j]? = some v → ∃ c o u, cl.lookup x = some c ∧ G c = some (StO c o) ∧ o.data = .cell (some u) ∧ RelV v u
abbrev lamObj (l : LamSyn) (cl : List (Str × Addr)) (pm : Value) (c' : Addr) (ctv : Value) : PySem.Obj := PySem.W.kla_obj "<lambda>" l.q l.params l.body l.scope cl pm c' ctv
theorem LCells.mono {G G' : Hp} {l : LamSyn} {cl : List (Str × Addr)} {vs : List V} (e : Ex G G') (h : LCells G l cl vs) : LCells G' l cl vs :=
  ⟨h.inj, fun x c q => let ⟨o, v, a, b⟩ := h.at_ x c q; ⟨o, v, e _ _ a, b⟩, h.has, fun j x v p q => let ⟨c, o, u, a, b, d⟩ := h.val j x v p q; ⟨c, o, u, a, e _ _ b, d⟩⟩
mutual
inductive Rep (c : Ct) (da : Option Addr) (G : Hp) : V → D → Prop
  | non : Rep c da G .non .non
  | bl (b : Bool) : Rep c da G (.bl b) (.bl b)
  | int (i : Int) : Rep c da G (.int i) (.int i)
  | str (x : Str) : Rep c da G (.str x) (.str x)
  | ty (n : String) : Rep c da G (.ty n) (.ty n)
  | draw {a : Addr} : da = some a → Rep c da G (.ref a) .draw
  | tup {a : Addr} {xs : List V} {ds : List D} : G a = some (.tup xs) → RepAll c da G xs ds → Rep c da G (.ref a) (.tup ds)
  | ktup {a : Addr} {xs : List V} {ds : List D} : SqT c.K G a xs → RepAll c da G xs ds → Rep c da G (.ref a) (.ktup ds)
  | lst {a : Addr} {xs : List V} {ds : List D} : G a = some (.lst xs) → RepAll c da G xs ds → Rep c da G (.ref a) (.lst ds)
  | scr {a : Addr} {ns : List Int} : SqL c.K G a (ns.map V.int) → Rep c da G (.ref a) (.scr ns)
  | dK {a : Addr} {kvs : List (Key × V)} {ps : List (D × D)} : G a = some (.dK kvs) → RepKV c da G kvs ps → Rep c da G (.ref a) (.dic ps)
  | dT {a : Addr} {kvs : List (List Key × V)} {ps : List (D × D)} : G a = some (.dT kvs) → RepKT c da G kvs ps → Rep c da G (.ref a) (.dit ps)
  | fdT {a : Addr} {ob : Obj} {kvs : List (List Key × V)} {ps : List (D × D)} : G a = some (.frz ob (.dT kvs)) → RepKT c da G kvs ps → Rep c da G (.ref a) (.fdit ps)
  | exc {a C dx : Addr} {fs : List (Str × V)} {cn : Str} {gs : List (Str × D)} : G a = some (EXO a C dx) → G dx = some (.xd fs) → c.mg cn = some (.ref C) → RepF c da G fs gs → Rep c da G (.ref a) (.exc cn gs)
  | exo {a C : Addr} {cn : Str} : G a = some (ExO (.ref C) a) → c.mg cn = some (.ref C) → Rep c da G (.ref a) (.exc cn [])
  | ins {a C dx : Addr} {fs : List (Str × V)} {cn : Str} {gs : List (Str × D)} : G a = some (.ins C dx fs) → c.mg cn = some (.ref C) → RepF c da G fs gs → Rep c da G (.ref a) (.ins cn gs)
  | lam {f c' : Addr} {i : Nat} {l : LamSyn} {cl : List (Str × Addr)} {pm ctv : Value} {vs : List V} {ds : List D} : Tabl.L i = some l → G f = some (StO f (lamObj l cl pm c' ctv)) → G c' = some (LamX.CodeO c' l.q) → LCells G l cl vs → RepAll c da G vs ds → Rep c da G (.ref f) (.lam i ds)
inductive RepAll (c : Ct) (da : Option Addr) (G : Hp) : List V → List D → Prop
  | nil : RepAll c da G [] []
  | cons {v : V} {vs : List V} {d : D} {ds : List D} : Rep c da G v d → RepAll c da G vs ds → RepAll c da G (v :: vs) (d :: ds)
inductive RepKV (c : Ct) (da : Option Addr) (G : Hp) : List (Key × V) → List (D × D) → Prop
  | nil : RepKV c da G [] []
  | cons {k : Key} {v : V} {vs : List (Key × V)} {d : D} {ds : List (D × D)} : Rep c da G v d → RepKV c da G vs ds → RepKV c da G ((k, v) :: vs) ((kD k, d) :: ds)
inductive RepKT (c : Ct) (da : Option Addr) (G : Hp) : List (List Key × V) → List (D × D) → Prop
  | nil : RepKT c da G [] []
  | cons {k : List Key} {v : V} {vs : List (List Key × V)} {d : D} {ds : List (D × D)} : Rep c da G v d → RepKT c da G vs ds → RepKT c da G ((k, v) :: vs) ((.tup (k.map kD), d) :: ds)
inductive RepF (c : Ct) (da : Option Addr) (G : Hp) : List (Str × V) → List (Str × D) → Prop
  | nil : RepF c da G [] []
  | cons {k : Str} {v : V} {vs : List (Str × V)} {d : D} {ds : List (Str × D)} : Rep c da G v d → RepF c da G vs ds → RepF c da G ((k, v) :: vs) ((k, d) :: ds)
end

section
variable {c : Ct} {da : Option Addr} {G G' : Hp}
mutual
theorem Rep.mono (e : Ex G G') : ∀ {v : V} {d : D}, Rep c da G v d → Rep c da G' v d
  | _, _, .non => .non
  | _, _, .bl b => .bl b
  | _, _, .int i => .int i
  | _, _, .str x => .str x
  | _, _, .ty n => .ty n
  | _, _, .draw h => .draw h
  | _, _, .tup h r => .tup (e _ _ h) (RepAll.mono e r)
  | _, _, .ktup h r => .ktup (e.st h) (RepAll.mono e r)
  | _, _, .lst h r => .lst (e _ _ h) (RepAll.mono e r)
  | _, _, .scr h => .scr (e.sl h)
  | _, _, .dK h r => .dK (e _ _ h) (RepKV.mono e r)
  | _, _, .dT h r => .dT (e _ _ h) (RepKT.mono e r)
  | _, _, .fdT h r => .fdT (e _ _ h) (RepKT.mono e r)
  | _, _, .exc h h2 m r => .exc (e _ _ h) (e _ _ h2) m (RepF.mono e r)
  | _, _, .exo h m => .exo (e _ _ h) m
  | _, _, .ins h m r => .ins (e _ _ h) m (RepF.mono e r)
  | _, _, .lam t h h2 k r => .lam t (e _ _ h) (e _ _ h2) (k.mono e) (RepAll.mono e r)
theorem RepAll.mono (e : Ex G G') : ∀ {v : List V} {d : List D}, RepAll c da G v d → RepAll c da G' v d
  | _, _, .nil => .nil
  | _, _, .cons h r => .cons (Rep.mono e h) (RepAll.mono e r)
theorem RepKV.mono (e : Ex G G') : ∀ {v : List (Key × V)} {d : List (D × D)}, RepKV c da G v d → RepKV c da G' v d
  | _, _, .nil => .nil
  | _, _, .cons h r => .cons (Rep.mono e h) (RepKV.mono e r)
theorem RepKT.mono (e : Ex G G') : ∀ {v : List (List Key × V)} {d : List (D × D)}, RepKT c da G v d → RepKT c da G' v d
  | _, _, .nil => .nil
  | _, _, .cons h r => .cons (Rep.mono e h) (RepKT.mono e r)
theorem RepF.mono (e : Ex G G') : ∀ {v : List (Str × V)} {d : List (Str × D)}, RepF c da G v d → RepF c da G' v d
  | _, _, .nil => .nil
  | _, _, .cons h r => .cons (Rep.mono e h) (RepF.mono e r)
end
theorem RepAll.length : ∀ {v : List V} {d : List D}, RepAll c da G v d → v.length = d.length
  | _, _, .nil => rfl
  | _, _, .cons _ r => by simp [RepAll.length r]
theorem RepAll.get : ∀ {vs : List V} {ds : List D}, RepAll c da G vs ds → ∀ {i : Nat} {d : D}, ds[i]? = some d → ∃ v, vs[i]? = some v ∧ Rep c da G v d
  | _, _, .nil, _, _, h => by simp at h
  | _, _, .cons h r, 0, d, e => by
    obtain rfl := Option.some.inj e
    exact ⟨_, rfl, h⟩
  | _, _, .cons h r, i + 1, d, e => by
    obtain ⟨v, h1, h2⟩ := RepAll.get r (i := i) (d := d) (by simpa using e)
    exact ⟨v, by simpa using h1, h2⟩
theorem RepAll.append : ∀ {vs us : List V} {ds es : List D}, RepAll c da G vs ds → RepAll c da G us es → RepAll c da G (vs ++ us) (ds ++ es)
  | _, _, _, _, .nil, r => r
  | _, _, _, _, .cons h q, r => .cons h (RepAll.append q r)
theorem RepAll.snoc {vs : List V} {ds : List D} {v : V} {d : D} (r : RepAll c da G vs ds) (h : Rep c da G v d) : RepAll c da G (vs ++ [v]) (ds ++ [d]) := r.append (.cons h .nil)
theorem RepAll.take : ∀ {vs : List V} {ds : List D} (n : Nat), RepAll c da G vs ds → RepAll c da G (vs.take n) (ds.take n)
  | _, _, 0, _ => .nil
  | _, _, _ + 1, .nil => .nil
  | _, _, n + 1, .cons h r => .cons h (RepAll.take n r)
theorem RepAll.drop : ∀ {vs : List V} {ds : List D} (n : Nat), RepAll c da G vs ds → RepAll c da G (vs.drop n) (ds.drop n)
  | _, _, 0, r => r
  | _, _, _ + 1, .nil => .nil
  | _, _, n + 1, .cons _ r => RepAll.drop n r
theorem RepAll.set : ∀ {vs : List V} {ds : List D} {v : V} {d : D} (i : Nat), RepAll c da G vs ds → Rep c da G v d → RepAll c da G (vs.set i v) (ds.set i d)
  | _, _, _, _, _, .nil, _ => .nil
  | _, _, _, _, 0, .cons _ r, h => .cons h r
  | _, _, _, _, i + 1, .cons q r, h => .cons q (RepAll.set i r h)
theorem RepAll.eraseIdx : ∀ {vs : List V} {ds : List D} (i : Nat), RepAll c da G vs ds → RepAll c da G (vs.eraseIdx i) (ds.eraseIdx i)
  | _, _, _, .nil => .nil
  | _, _, 0, .cons _ r => r
  | _, _, i + 1, .cons q r => .cons q (RepAll.eraseIdx i r)
theorem RepAll.ints : ∀ (ns : List Int), RepAll c da G (ns.map V.int) (ns.map D.int)
  | [] => .nil
  | n :: r => .cons (.int n) (RepAll.ints r)
theorem RepAll.ints_inv : ∀ {vs : List V} {ns : List Int}, RepAll c da G vs (ns.map D.int) → vs = ns.map V.int
  | _, [], h => by cases h; rfl
  | _, n :: r, h => by
    cases h with
    | cons a b =>
      cases a
      rw [RepAll.ints_inv b]
      rfl
theorem RepF.lookup : ∀ {fs : List (Str × V)} {gs : List (Str × D)}, RepF c da G fs gs → ∀ {f : Str} {d : D}, gs.lookup f = some d → ∃ v, fs.lookup f = some v ∧ Rep c da G v d
  | _, _, .nil, _, _, h => by cases h
  | _, _, .cons (k := k) h r, f, d, e => by
    rw [List.lookup_cons] at e
    rw [List.lookup_cons]
    cases q : f == k with
    | true =>
      rw [q] at e
      have e' := Option.some.inj e
      subst e'
      exact ⟨_, rfl, h⟩
    | false =>
      rw [q] at e
      exact RepF.lookup r e
theorem RepF.none : ∀ {fs : List (Str × V)} {gs : List (Str × D)}, RepF c da G fs gs → ∀ {f : Str}, gs.lookup f = none → fs.lookup f = none
  | _, _, .nil, _, h => rfl
  | _, _, .cons (k := k) h r, f, e => by
    rw [List.lookup_cons] at e
    rw [List.lookup_cons]
    cases q : f == k with
    | true =>
      rw [q] at e
      cases e
    | false =>
      rw [q] at e
      exact RepF.none r e
end

/-- the heap without what stands at O -/
def vis (O : List Addr) (H : Hp) : Hp := fun b => if b ∈ O then none else H b
theorem vis_in {O : List Addr} {H : Hp} {a : Addr} (h : a ∈ O) : vis O H a = none := if_pos h
theorem vis_out {O : List Addr} {H : Hp} {a : Addr} (h : a ∉ O) : vis O H a = H a := if_neg h
theorem vis_some {O : List Addr} {H : Hp} {a : Addr} {o : HO} (h : vis O H a = some o) : a ∉ O ∧ H a = some o := by
  by_cases q : a ∈ O
  · rw [vis_in q] at h
    cases h
  · rw [vis_out q] at h
    exact ⟨q, h⟩
theorem vis_ex {O : List Addr} {H : Hp} : Ex (vis O H) H := fun a o h => (vis_some h).2
theorem vis_mono {O : List Addr} {H H' : Hp} (e : Ex H H') : Ex (vis O H) (vis O H') := fun a o h => by
  obtain ⟨n, q⟩ := vis_some h
  rw [vis_out n]
  exact e a o q
theorem vis_cons {O : List Addr} {H : Hp} {a : Addr} : Ex (vis (a :: O) H) (vis O H) := fun b o h => by
  obtain ⟨n, q⟩ := vis_some h
  rw [vis_out fun z => n (List.mem_cons_of_mem _ z)]
  exact q
theorem vis_sub {O O' : List Addr} {H : Hp} (h : ∀ a ∈ O', a ∈ O) : Ex (vis O H) (vis O' H) := fun b o e => by
  obtain ⟨n, q⟩ := vis_some e
  rw [vis_out fun z => n (h b z)]
  exact q
/-- writing at a hidden place -/
theorem vis_upd {O : List Addr} {H : Hp} {a : Addr} {o : HO} (h : a ∈ O) : vis O (upd H a o) = vis O H := by
  funext b
  by_cases q : b ∈ O
  · rw [vis_in q, vis_in q]
  · rw [vis_out q, vis_out q, upd_ne fun z => q (by rw [z]; exact h)]

/-- a list or a dict, as it stands -/
def Obj (c : Ct) (da : Option Addr) (G : Hp) (o : HO) (d : D) : Prop :=
  (∃ xs ds, o = .lst xs ∧ d = .lst ds ∧ RepAll c da G xs ds) ∨ (∃ kvs ps, o = .dK kvs ∧ d = .dic ps ∧ RepKV c da G kvs ps) ∨ (∃ kvs ps, o = .dT kvs ∧ d = .dit ps ∧ RepKT c da G kvs ps) ∨ (∃ C dx fs cn gs, o = .ins C dx fs ∧ d = .ins cn gs ∧ c.mg cn = some (.ref C) ∧ RepF c da G fs gs)
theorem Obj.mono {c : Ct} {da : Option Addr} {G G' : Hp} {o : HO} {d : D} (e : Ex G G') (h : Obj c da G o d) : Obj c da G' o d := by
  rcases h with ⟨xs, ds, h1, h2, r⟩ | ⟨kvs, ps, h1, h2, r⟩ | ⟨kvs, ps, h1, h2, r⟩ | ⟨C, dx, fs, cn, gs, h1, h2, h3, r⟩
  · exact .inl ⟨xs, ds, h1, h2, r.mono e⟩
  · exact .inr (.inl ⟨kvs, ps, h1, h2, r.mono e⟩)
  · exact .inr (.inr (.inl ⟨kvs, ps, h1, h2, r.mono e⟩))
  · exact .inr (.inr (.inr ⟨C, dx, fs, cn, gs, h1, h2, h3, r.mono e⟩))
theorem Obj.rep {c : Ct} {da : Option Addr} {G : Hp} {a : Addr} {o : HO} {d : D} (h : Obj c da G o d) (e : G a = some o) : Rep c da G (.ref a) d := by
  rcases h with ⟨xs, ds, rfl, rfl, r⟩ | ⟨kvs, ps, rfl, rfl, r⟩ | ⟨kvs, ps, rfl, rfl, r⟩ | ⟨C, dx, fs, cn, gs, rfl, rfl, h3, r⟩
  · exact .lst e r
  · exact .dK e r
  · exact .dT e r
  · exact .ins e h3 r

/-- neither a tuple nor a thing of another kind -/
def tagOf : HO → Option (List V)
  | .tup xs => some xs
  | .ext _ => some []
  | _ => none
def NT (o : HO) : Prop := ∀ xs, tagOf o ≠ some xs
theorem Obj.nt {c : Ct} {da : Option Addr} {G : Hp} {o : HO} {d : D} (h : Obj c da G o d) : NT o := by
  rcases h with ⟨_, _, rfl, _⟩ | ⟨_, _, rfl, _⟩ | ⟨_, _, rfl, _⟩ | ⟨_, _, _, _, _, rfl, _⟩ <;> (intro xs z; cases z)
/-! ### the state -/
inductive Slot where
  | val (d : D) | own (d : D)
abbrev Env := List (Option Slot)
structure W where
  wide : List Int
  cells : List Int
  rest : Int
  turn : Int
inductive RV where
  | sh (d : D) | fr (d : D) | ow (i : Nat)
abbrev M (α : Type) := Env → W → Option (α × Env × W)
def pureM {α : Type} (a : α) : M α := fun ρ w => some (a, ρ, w)
def failM {α : Type} : M α := fun _ _ => none
def bindM {α β : Type} (f : M α) (k : α → M β) : M β := fun ρ w => match f ρ w with
  | none => none
  | some (a, ρ', w') => k a ρ' w'
theorem bindM_some {α β : Type} {f : M α} {k : α → M β} {ρ : Env} {w : W} {z : β × Env × W} (h : bindM f k ρ w = some z) : ∃ a ρ' w', f ρ w = some (a, ρ', w') ∧ k a ρ' w' = some z := by
  unfold bindM at h
  cases e : f ρ w with
  | none =>
    rw [e] at h
    cases h
  | some p =>
    obtain ⟨a, ρ', w'⟩ := p
    rw [e] at h
    exact ⟨a, ρ', w', rfl, h⟩

def DrawAt (dr : Dr) (w : W) (H : Hp) : Prop :=
  (∀ t, dr.at_ = some t → H t.1 = some (.dK [(.inr "wide", .ref t.2.1), (.inr "cells", .ref t.2.2), (.inr "rest", .int w.rest), (.inr "turn", .int w.turn)]) ∧
    H t.2.1 = some (.lst (w.wide.map V.int)) ∧ H t.2.2 = some (.lst (w.cells.map V.int)) ∧ t.2.1 ≠ t.2.2 ∧ w.cells = dr.cl) ∧ LamX.Tabs Tabl.T H

/-- a frame: the draws, what was hidden at the entry, the heap at the entry -/
structure Fm where
  dr : Dr
  O0 : List Addr
  H0 : Hp
structure SR (c : Ct) (F : Fm) (O : List Addr) (ρ : Env) (w : W) (σ : L2.St) (H : Hp) : Prop where
  len : ρ.length = σ.length
  base : ∀ a o, F.H0 a = some o → a ∉ F.dr.as → H a = some o
  new : ∀ a ∈ O, a ∉ F.O0 → F.H0 a = none
  sub : ∀ a ∈ F.O0, a ∈ O
  drs : ∀ a ∈ F.dr.as, a ∈ F.O0
  trk : ∀ a ∈ O, ∃ o, H a = some o ∧ NT o
  draw : DrawAt F.dr w H
  val : ∀ (i : Nat) d, ρ[i]? = some (some (Slot.val d)) → ∃ v, σ[i]? = some (some v) ∧ Rep c F.dr.da (vis O H) v d
  own : ∀ (i : Nat) d, ρ[i]? = some (some (Slot.own d)) → ∃ a o, σ[i]? = some (some (V.ref a)) ∧ a ∈ O ∧ a ∉ F.O0 ∧ H a = some o ∧ Obj c F.dr.da (vis O H) o d
  uni : ∀ (i j : Nat) d d' a, ρ[i]? = some (some (Slot.own d)) → ρ[j]? = some (some (Slot.own d')) → σ[i]? = some (some (V.ref a)) → σ[j]? = some (some (V.ref a)) → i = j

/-- a value that came out; G: what was to be seen at the start -/
def RepR (c : Ct) (F : Fm) (G : Hp) (O : List Addr) (ρ : Env) (w : W) (σ : L2.St) (H : Hp) : RV → V → Prop
  | .sh d, v => Rep c F.dr.da (vis O H) v d
  | .fr d, v => ∃ a o, v = .ref a ∧ a ∉ O ∧ SR c F (a :: O) ρ w σ H ∧ H a = some o ∧ Obj c F.dr.da (vis (a :: O) H) o d ∧ Ex G (vis (a :: O) H)
  | .ow i, v => σ[i]? = some (some v) ∧ ∃ d, ρ[i]? = some (some (.own d))
/-- a value that is held while others are reckoned -/
def Hold (c : Ct) (F : Fm) (O : List Addr) (σ : L2.St) (H : Hp) : RV → V → Prop
  | .sh d, v => Rep c F.dr.da (vis O H) v d
  | .fr d, v => Rep c F.dr.da (vis O H) v d
  | .ow i, v => σ[i]? = some (some v)
/-- a value that is looked at: its own object may be hidden -/
def RepP (c : Ct) (da : Option Addr) (O : List Addr) (H : Hp) (v : V) (d : D) : Prop :=
  Rep c da (vis O H) v d ∨ ∃ a o, v = .ref a ∧ H a = some o ∧ Obj c da (vis O H) o d
def slotD : Option (Option Slot) → Option D
  | some (some (.own d)) => some d
  | some (some (.val d)) => some d
  | _ => none
def peek (ρ : Env) : RV → Option D
  | .sh d => some d
  | .fr d => some d
  | .ow i => slotD ρ[i]?
/-- a new value of a plain operation: H' is H with more -/
def RepN (c : Ct) (da : Option Addr) (O : List Addr) (H H' : Hp) : RV → V → Prop
  | .sh d, v => Rep c da (vis O H') v d
  | .fr d, v => ∃ a o, v = .ref a ∧ H a = none ∧ H' a = some o ∧ Obj c da (vis (a :: O) H') o d
  | .ow _, _ => False

section
variable {c : Ct} {F : Fm} {G G' : Hp} {O O' : List Addr} {ρ : Env} {w : W} {σ : L2.St} {H H' : Hp} {r : RV} {v : V} {d : D}
theorem DrawAt.mono {dr : Dr} {w : W} (e : Ex H H') (h : DrawAt dr w H) : DrawAt dr w H' := ⟨fun t q => let ⟨a, b, c, d⟩ := h.1 t q; ⟨e _ _ a, e _ _ b, e _ _ c, d⟩, h.2.ext e⟩
/-- more objects -/
theorem SR.grow (S : SR c F O ρ w σ H) (e : Ex H H') : SR c F O ρ w σ H' where
  len := S.len
  base := fun a o h n => e _ _ (S.base a o h n)
  new := S.new
  sub := S.sub
  drs := S.drs
  trk := fun a h => let ⟨o, q, n⟩ := S.trk a h; ⟨o, e _ _ q, n⟩
  draw := S.draw.mono e
  val := fun i d h => let ⟨v, h1, h2⟩ := S.val i d h; ⟨v, h1, h2.mono (vis_mono e)⟩
  own := fun i d h => let ⟨a, o, h1, h2, h3, h4, h5⟩ := S.own i d h; ⟨a, o, h1, h2, h3, e _ _ h4, h5.mono (vis_mono e)⟩
  uni := S.uni
theorem Hold.mono (e : Ex (vis O H) (vis O' H')) (h : Hold c F O σ H r v) : Hold c F O' σ H' r v := by
  cases r with
  | sh d => exact Rep.mono e h
  | fr d => exact Rep.mono e h
  | ow i => exact h
theorem RepR.less (e : Ex G' G) (h : RepR c F G O ρ w σ H r v) : RepR c F G' O ρ w σ H r v := by
  cases r with
  | sh d => exact h
  | ow i => exact h
  | fr d =>
    obtain ⟨a, o, h1, h2, h3, h4, h5, h6⟩ := h
    exact ⟨a, o, h1, h2, h3, h4, h5, e.trans h6⟩
theorem RepR.hold (h : RepR c F G O ρ w σ H r v) : Hold c F O σ H r v := by
  cases r with
  | sh d => exact h
  | fr d =>
    obtain ⟨a, o, rfl, n, S, e, q, _⟩ := h
    exact (q.mono vis_cons).rep (by rw [vis_out n]; exact e)
  | ow i => exact h.1
theorem Hold.peek (S : SR c F O ρ w σ H) (h : Hold c F O σ H r v) (e : peek ρ r = some d) : RepP c F.dr.da O H v d := by
  cases r with
  | sh d' =>
    cases e
    exact .inl h
  | fr d' =>
    cases e
    exact .inl h
  | ow i =>
    have e : slotD ρ[i]? = some d := e
    have h' : σ[i]? = some (some v) := h
    cases q : ρ[i]? with
    | none =>
      rw [q] at e
      cases e
    | some s =>
      rw [q] at e
      cases s with
      | none => cases e
      | some s =>
        cases s with
        | val d' =>
          cases e
          obtain ⟨v', h1, h2⟩ := S.val i d q
          rw [h'] at h1
          cases h1
          exact .inl h2
        | own d' =>
          cases e
          obtain ⟨a, o, h1, h2, h3, h4, h5⟩ := S.own i d q
          rw [h'] at h1
          cases h1
          exact .inr ⟨a, o, rfl, h4, h5⟩
/-- one more hidden place -/
theorem SR.hide {a : Addr} {o : HO} (S : SR c F O ρ w σ H) (n : H a = none) (e : Ex H H') (q : H' a = some o) (nt : NT o := by intro _ z; cases z) : SR c F (a :: O) ρ w σ H' ∧ a ∉ O ∧ Ex (vis O H) (vis (a :: O) H') := by
  have S' := S.grow e
  have nO : a ∉ O := fun z => by
    obtain ⟨u, hu, _⟩ := S.trk a z
    rw [n] at hu
    cases hu
  have k : Ex (vis O H) (vis (a :: O) H') := fun b u hb => by
    obtain ⟨m, hb⟩ := vis_some hb
    rw [vis_out fun z => ?_]
    · exact e _ _ hb
    · rcases List.mem_cons.mp z with z | z
      · rw [z, n] at hb
        cases hb
      · exact m z
  refine ⟨⟨S.len, S'.base, fun b h m => ?_, fun b h => List.mem_cons_of_mem _ (S.sub b h), S.drs, fun b h => ?_, S'.draw, fun i d h => ?_, fun i d h => ?_, S'.uni⟩, nO, k⟩
  · rcases List.mem_cons.mp h with z | z
    · subst z
      cases z : F.H0 b with
      | none => rfl
      | some u =>
        have nd : b ∉ F.dr.as := fun y => m (S.drs b y)
        rw [S.base b u z nd] at n
        cases n
    · exact S.new b z m
  · rcases List.mem_cons.mp h with z | z
    · rw [z]
      exact ⟨o, q, nt⟩
    · exact S'.trk b z
  · obtain ⟨u, h1, h2⟩ := S.val i d h
    exact ⟨u, h1, h2.mono k⟩
  · obtain ⟨b, u, h1, h2, h3, h4, h5⟩ := S.own i d h
    exact ⟨b, u, h1, List.mem_cons_of_mem _ h2, h3, e _ _ h4, h5.mono k⟩
/-- a plain operation's value is a value that came out -/
theorem RepN.out (S : SR c F O ρ w σ H) (e : Ex H H') (h : RepN c F.dr.da O H H' r v) : RepR c F (vis O H) O ρ w σ H' r v := by
  cases r with
  | sh d => exact h
  | ow i => exact h.elim
  | fr d =>
    obtain ⟨a, o, rfl, n, q, ob⟩ := h
    obtain ⟨S1, n1, k1⟩ := S.hide n e q ob.nt
    exact ⟨a, o, rfl, n1, S1, q, ob, k1⟩
end

/-! ### the judgements -/
abbrev ct (X : Cx) : Ct := ⟨X.K, X.mg⟩
def tE (c : Ct) (F : Fm) (f : M RV) : TE := fun σ H Q => ∃ O ρ w r ρ' w', SR c F O ρ w σ H ∧ f ρ w = some (r, ρ', w') ∧
  ∀ v O' H', SR c F O' ρ' w' σ H' → Ex (vis O H) (vis O' H') → RepR c F (vis O H) O' ρ' w' σ H' r v → Q v H'
def tT (c : Ct) (F : Fm) (f : M Bool) : TT := fun σ H Q => ∃ O ρ w b ρ' w', SR c F O ρ w σ H ∧ f ρ w = some (b, ρ', w') ∧
  ∀ O' H', SR c F O' ρ' w' σ H' → Ex (vis O H) (vis O' H') → Q b H'
inductive HoldAll (c : Ct) (F : Fm) (O : List Addr) (σ : L2.St) (H : Hp) : List RV → List V → Prop
  | nil : HoldAll c F O σ H [] []
  | cons {r : RV} {v : V} {rs : List RV} {vs : List V} : Hold c F O σ H r v → HoldAll c F O σ H rs vs → HoldAll c F O σ H (r :: rs) (v :: vs)
theorem HoldAll.mono {c : Ct} {F : Fm} {O O' : List Addr} {σ : L2.St} {H H' : Hp} (e : Ex (vis O H) (vis O' H')) : ∀ {rs : List RV} {vs : List V}, HoldAll c F O σ H rs vs → HoldAll c F O' σ H' rs vs
  | _, _, .nil => .nil
  | _, _, .cons h r => .cons (h.mono e) (HoldAll.mono e r)
theorem HoldAll.length {c : Ct} {F : Fm} {O : List Addr} {σ : L2.St} {H : Hp} : ∀ {rs : List RV} {vs : List V}, HoldAll c F O σ H rs vs → rs.length = vs.length
  | _, _, .nil => rfl
  | _, _, .cons h r => by simp [HoldAll.length r]
def tA (c : Ct) (F : Fm) (f : M (List RV)) : TA := fun σ H Q => ∃ O ρ w rs ρ' w', SR c F O ρ w σ H ∧ f ρ w = some (rs, ρ', w') ∧
  ∀ vs O' H', SR c F O' ρ' w' σ H' → Ex (vis O H) (vis O' H') → HoldAll c F O' σ H' rs vs → Q vs H'
def FE (X : Cx) (e : Expr) (f : M RV) : Prop := ∀ F, PE X e (tE (ct X) F f)
def FT (X : Cx) (e : Expr) (f : M Bool) : Prop := ∀ F, PT X e (tT (ct X) F f)
def FW (X : Cx) (e : Expr) (f : M Bool) : Prop := ∀ F, PW X e (tT (ct X) F f)
structure FA (X : Cx) (es : List Expr) (f : M (List RV)) : Prop where
  run : ∀ F, PA X es (tA (ct X) F f)
  len : ∀ ρ w rs ρ' w', f ρ w = some (rs, ρ', w') → rs.length = es.length
/-- how a statement ends -/
inductive Fl where
  | nx | ret (r : RV) | bk | ct
def Done (c : Ct) (F : Fm) (G : Hp) (fl : Fl) (ρ : Env) (w : W) (E : Ends) : Prop := match fl with
  | .nx => ∀ σ O H, SR c F O ρ w σ H → Ex G (vis O H) → E.nx σ H
  | .bk => ∀ σ O H, SR c F O ρ w σ H → Ex G (vis O H) → E.bk σ H
  | .ct => ∀ σ O H, SR c F O ρ w σ H → Ex G (vis O H) → E.ct σ H
  | .ret r => ∀ v σ O H, SR c F O ρ w σ H → RepR c F G O ρ w σ H r v → E.rt v H
theorem Done.more {c : Ct} {F : Fm} {G G' : Hp} {fl : Fl} {ρ : Env} {w : W} {E : Ends} (e : Ex G G') (h : Done c F G fl ρ w E) : Done c F G' fl ρ w E := by
  cases fl with
  | nx => exact fun σ O H S x => h σ O H S (e.trans x)
  | bk => exact fun σ O H S x => h σ O H S (e.trans x)
  | ct => exact fun σ O H S x => h σ O H S (e.trans x)
  | ret r => exact fun v σ O H S x => h v σ O H S (x.less e)
def tS (c : Ct) (F : Fm) (f : M Fl) : TS := fun E σ H => ∃ O ρ w fl ρ' w', SR c F O ρ w σ H ∧ f ρ w = some (fl, ρ', w') ∧ Done c F (vis O H) fl ρ' w' E
def FS (X : Cx) (st : Stmt) (f : M Fl) : Prop := ∀ F, PS X st (tS (ct X) F f)
def FSs (X : Cx) (st : List Stmt) (f : M Fl) : Prop := ∀ F, PSs X st (tS (ct X) F f)
theorem PE.wk {X : Cx} {e : Expr} {t t' : TE} (h : PE X e t) (k : ∀ σ H Q, t' σ H Q → t σ H Q) : PE X e t' := ⟨fun pins s σ H Q I q => h.run pins s σ H Q I (k σ H Q q)⟩
theorem PT.wk {X : Cx} {e : Expr} {t t' : TT} (h : PT X e t) (k : ∀ σ H Q, t' σ H Q → t σ H Q) : PT X e t' := ⟨fun pins s σ H Q I q => h.run pins s σ H Q I (k σ H Q q)⟩
theorem PW.wk {X : Cx} {e : Expr} {t t' : TT} (h : PW X e t) (k : ∀ σ H Q, t' σ H Q → t σ H Q) : PW X e t' := ⟨fun wh pins s σ H Q I q => h.run wh pins s σ H Q I (k σ H Q q)⟩
theorem PA.wk {X : Cx} {e : List Expr} {t t' : TA} (h : PA X e t) (k : ∀ σ H Q, t' σ H Q → t σ H Q) : PA X e t' := ⟨fun p pins s σ H Q I q => h.run p pins s σ H Q I (k σ H Q q)⟩
theorem PS.wk {X : Cx} {e : Stmt} {t t' : TS} (h : PS X e t) (k : ∀ D σ H, t' D σ H → t D σ H) : PS X e t' := ⟨fun pins s σ H D I q => h.run pins s σ H D I (k D σ H q)⟩
theorem PSs.wk {X : Cx} {e : List Stmt} {t t' : TS} (h : PSs X e t) (k : ∀ D σ H, t' D σ H → t D σ H) : PSs X e t' := ⟨fun pins s σ H D I q => h.run pins s σ H D I (k D σ H q)⟩
end FD

end sec_FD1
section sec_FD2
set_option maxRecDepth 100000
set_option maxHeartbeats 5000000
/-! FD2: expressions. -/
namespace FD
open PySem L2
variable [Tabl]

section
variable {c : Ct} {da : Option Addr} {O : List Addr} {H : Hp} {v : V}
theorem Obj.noInt {G : Hp} {o : HO} {i : Int} (h : Obj c da G o (.int i)) : False := by
  rcases h with ⟨_, _, _, e, _⟩ | ⟨_, _, _, e, _⟩ | ⟨_, _, _, e, _⟩ | ⟨_, _, _, _, _, _, e, _⟩ <;> cases e
theorem RepP.int {i : Int} (h : RepP c da O H v (.int i)) : v = .int i := by
  rcases h with h | ⟨a, o, _, _, h⟩
  · cases h; rfl
  · exact h.noInt.elim
theorem RepP.str {i : Str} (h : RepP c da O H v (.str i)) : v = .str i := by
  rcases h with h | ⟨a, o, _, _, h⟩
  · cases h; rfl
  · rcases h with ⟨_, _, _, e, _⟩ | ⟨_, _, _, e, _⟩ | ⟨_, _, _, e, _⟩ | ⟨_, _, _, _, _, _, e, _⟩ <;> cases e
theorem RepP.bl {i : Bool} (h : RepP c da O H v (.bl i)) : v = .bl i := by
  rcases h with h | ⟨a, o, _, _, h⟩
  · cases h; rfl
  · rcases h with ⟨_, _, _, e, _⟩ | ⟨_, _, _, e, _⟩ | ⟨_, _, _, e, _⟩ | ⟨_, _, _, _, _, _, e, _⟩ <;> cases e
theorem RepP.non (h : RepP c da O H v .non) : v = .non := by
  rcases h with h | ⟨a, o, _, _, h⟩
  · cases h; rfl
  · rcases h with ⟨_, _, _, e, _⟩ | ⟨_, _, _, e, _⟩ | ⟨_, _, _, e, _⟩ | ⟨_, _, _, _, _, _, e, _⟩ <;> cases e
theorem RepP.ty {n : String} (h : RepP c da O H v (.ty n)) : v = .ty n := by
  rcases h with h | ⟨a, o, _, _, h⟩
  · cases h; rfl
  · rcases h with ⟨_, _, _, e, _⟩ | ⟨_, _, _, e, _⟩ | ⟨_, _, _, e, _⟩ | ⟨_, _, _, _, _, _, e, _⟩ <;> cases e
theorem RepP.tup {ds : List D} (h : RepP c da O H v (.tup ds)) : ∃ a xs, v = .ref a ∧ SqT c.K H a xs ∧ RepAll c da (vis O H) xs ds ∧ Rep c da (vis O H) v (.tup ds) := by
  rcases h with h | ⟨a, o, _, _, h⟩
  · cases id h with
    | tup s r => exact ⟨_, _, rfl, .inl (.inl (vis_ex _ _ s)), r, h⟩
  · rcases h with ⟨_, _, _, e, _⟩ | ⟨_, _, _, e, _⟩ | ⟨_, _, _, e, _⟩ | ⟨_, _, _, _, _, _, e, _⟩ <;> cases e
theorem RepP.tupH {ds : List D} (h : RepP c da O H v (.tup ds)) : ∃ a xs, v = .ref a ∧ vis O H a = some (.tup xs) ∧ RepAll c da (vis O H) xs ds := by
  rcases h with h | ⟨a, o, _, _, h⟩
  · cases h with
    | tup s r => exact ⟨_, _, rfl, s, r⟩
  · rcases h with ⟨_, _, _, e, _⟩ | ⟨_, _, _, e, _⟩ | ⟨_, _, _, e, _⟩ | ⟨_, _, _, _, _, _, e, _⟩ <;> cases e
theorem RepP.ktup {ds : List D} (h : RepP c da O H v (.ktup ds)) : ∃ a xs, v = .ref a ∧ SqT c.K H a xs ∧ RepAll c da (vis O H) xs ds ∧ Rep c da (vis O H) v (.ktup ds) := by
  rcases h with h | ⟨a, o, _, _, h⟩
  · cases id h with
    | ktup s r => exact ⟨_, _, rfl, vis_ex.st s, r, h⟩
  · rcases h with ⟨_, _, _, e, _⟩ | ⟨_, _, _, e, _⟩ | ⟨_, _, _, e, _⟩ | ⟨_, _, _, _, _, _, e, _⟩ <;> cases e
theorem RepP.lst {ds : List D} (h : RepP c da O H v (.lst ds)) : ∃ a xs, v = .ref a ∧ H a = some (.lst xs) ∧ RepAll c da (vis O H) xs ds := by
  rcases h with h | ⟨a, o, ev, e, h⟩
  · cases h with
    | lst s r => exact ⟨_, _, rfl, vis_ex _ _ s, r⟩
  · rcases h with ⟨xs, es, e1, e2, r⟩ | ⟨_, _, _, e, _⟩ | ⟨_, _, _, e, _⟩ | ⟨_, _, _, _, _, _, e, _⟩
    · cases e2
      subst e1
      exact ⟨a, xs, ev, e, r⟩
    · cases e
    · cases e
    · cases e
theorem RepP.scr {ns : List Int} (h : RepP c da O H v (.scr ns)) : ∃ a, v = .ref a ∧ SqL c.K H a (ns.map V.int) := by
  rcases h with h | ⟨a, o, _, _, h⟩
  · cases h with
    | scr s => exact ⟨_, rfl, vis_ex.sl s⟩
  · rcases h with ⟨_, _, _, e, _⟩ | ⟨_, _, _, e, _⟩ | ⟨_, _, _, e, _⟩ | ⟨_, _, _, _, _, _, e, _⟩ <;> cases e
theorem RepP.ins {cn : Str} {gs : List (Str × D)} (h : RepP c da O H v (.ins cn gs)) : ∃ a C dx fs, v = .ref a ∧ H a = some (.ins C dx fs) ∧ c.mg cn = some (.ref C) ∧ RepF c da (vis O H) fs gs := by
  rcases h with h | ⟨a, o, ev, ea, h⟩
  · cases id h with
    | ins e m r => exact ⟨_, _, _, _, rfl, vis_ex _ _ e, m, r⟩
  · rcases h with ⟨_, _, _, e, _⟩ | ⟨_, _, _, e, _⟩ | ⟨_, _, _, e, _⟩ | ⟨C, dx, fs, cn', gs', e1, e2, e3, r⟩
    · cases e
    · cases e
    · cases e
    · cases e2
      subst e1
      exact ⟨a, C, dx, fs, ev, ea, e3, r⟩
theorem RepP.dic {ps : List (D × D)} (h : RepP c da O H v (.dic ps)) : ∃ a kvs, v = .ref a ∧ H a = some (.dK kvs) ∧ RepKV c da (vis O H) kvs ps := by
  rcases h with h | ⟨a, o, ev, e, h⟩
  · cases h with
    | dK s r => exact ⟨_, _, rfl, vis_ex _ _ s, r⟩
  · rcases h with ⟨xs, es, e1, e2, r⟩ | ⟨kvs, qs, e1, e2, r⟩ | ⟨kvs, qs, e1, e2, r⟩ | ⟨_, _, _, _, _, _, e2, _⟩
    · cases e2
    · cases e2
      subst e1
      exact ⟨a, kvs, ev, e, r⟩
    · cases e2
    · cases e2
theorem RepP.dit {ps : List (D × D)} (h : RepP c da O H v (.dit ps)) : ∃ a kvs, v = .ref a ∧ H a = some (.dT kvs) ∧ RepKT c da (vis O H) kvs ps := by
  rcases h with h | ⟨a, o, ev, e, h⟩
  · cases h with
    | dT s r => exact ⟨_, _, rfl, vis_ex _ _ s, r⟩
  · rcases h with ⟨xs, es, e1, e2, r⟩ | ⟨kvs, qs, e1, e2, r⟩ | ⟨kvs, qs, e1, e2, r⟩ | ⟨_, _, _, _, _, _, e2, _⟩
    · cases e2
    · cases e2
    · cases e2
      subst e1
      exact ⟨a, kvs, ev, e, r⟩
    · cases e2
end

section
variable {c : Ct} {da : Option Addr} {O : List Addr} {H : Hp} {v : V}
theorem RepP.fdit {ps : List (D × D)} (h : RepP c da O H v (.fdit ps)) : ∃ a ob kvs, v = .ref a ∧ H a = some (.frz ob (.dT kvs)) ∧ RepKT c da (vis O H) kvs ps ∧ vis O H a = some (.frz ob (.dT kvs)) := by
  rcases h with h | ⟨a, o, ev, e, h⟩
  · cases h with
    | fdT s r => exact ⟨_, _, _, rfl, vis_ex _ _ s, r, s⟩
  · rcases h with ⟨_, _, _, e, _⟩ | ⟨_, _, _, e, _⟩ | ⟨_, _, _, e, _⟩ | ⟨_, _, _, _, _, _, e, _⟩ <;> cases e
end

/-! ### operations on what is looked at -/
inductive AllP (c : Ct) (da : Option Addr) (O : List Addr) (H : Hp) : List V → List D → Prop
  | nil : AllP c da O H [] []
  | cons {v : V} {d : D} {vs : List V} {ds : List D} : RepP c da O H v d → AllP c da O H vs ds → AllP c da O H (v :: vs) (d :: ds)
/-- a plain operation by values: its arguments are looked at, its value is new -/
def rPure (c : Ct) (g : List D → Option RV) : List V → Hp → VK → Prop := fun xs H Q => ∃ da O ds r, (∀ a ∈ O, ∃ o, H a = some o ∧ NT o) ∧ AllP c da O H xs ds ∧ g ds = some r ∧ ∀ v H', Ex H H' → RepN c da O H H' r v → Q v H'
def rP2 (c : Ct) (g : D → D → Option RV) : R2 := fun x y H Q => ∃ da O d1 d2 r, (∀ a ∈ O, ∃ o, H a = some o ∧ NT o) ∧ RepP c da O H x d1 ∧ RepP c da O H y d2 ∧ g d1 d2 = some r ∧ ∀ v H', Ex H H' → RepN c da O H H' r v → Q v H'
def rP1 (c : Ct) (g : D → Option RV) : V → Hp → VK → Prop := fun x H Q => ∃ da O d1 r, (∀ a ∈ O, ∃ o, H a = some o ∧ NT o) ∧ RepP c da O H x d1 ∧ g d1 = some r ∧ ∀ v H', Ex H H' → RepN c da O H H' r v → Q v H'
def lift1 (g : D → Option RV) (r1 : RV) : M RV := fun ρ w => match peek ρ r1 with
  | some d1 => (match g d1 with | some r => some (r, ρ, w) | none => none)
  | none => none
def lift2 (g : D → D → Option RV) (r1 r2 : RV) : M RV := fun ρ w => match peek ρ r1 with
  | some d1 => (match peek ρ r2 with
    | some d2 => (match g d1 d2 with | some r => some (r, ρ, w) | none => none)
    | none => none)
  | none => none
def peeks (ρ : Env) : List RV → Option (List D)
  | [] => some []
  | r :: rs => match peek ρ r with
    | some d => (match peeks ρ rs with | some ds => some (d :: ds) | none => none)
    | none => none
def liftN (g : List D → Option RV) (rs : List RV) : M RV := fun ρ w => match peeks ρ rs with
  | some ds => (match g ds with | some r => some (r, ρ, w) | none => none)
  | none => none
theorem lift1_some {g : D → Option RV} {r1 : RV} {ρ : Env} {w : W} {z : RV × Env × W} (h : lift1 g r1 ρ w = some z) : ∃ d1 r, peek ρ r1 = some d1 ∧ g d1 = some r ∧ z = (r, ρ, w) := by
  unfold lift1 at h
  split at h
  · rename_i d1 e1
    split at h
    · rename_i r e
      exact ⟨d1, r, e1, e, (Option.some.inj h).symm⟩
    · cases h
  · cases h
theorem lift2_some {g : D → D → Option RV} {r1 r2 : RV} {ρ : Env} {w : W} {z : RV × Env × W} (h : lift2 g r1 r2 ρ w = some z) : ∃ d1 d2 r, peek ρ r1 = some d1 ∧ peek ρ r2 = some d2 ∧ g d1 d2 = some r ∧ z = (r, ρ, w) := by
  unfold lift2 at h
  split at h
  · rename_i d1 e1
    split at h
    · rename_i d2 e2
      split at h
      · rename_i r e
        exact ⟨d1, d2, r, e1, e2, e, (Option.some.inj h).symm⟩
      · cases h
    · cases h
  · cases h
theorem liftN_some {g : List D → Option RV} {rs : List RV} {ρ : Env} {w : W} {z : RV × Env × W} (h : liftN g rs ρ w = some z) : ∃ ds r, peeks ρ rs = some ds ∧ g ds = some r ∧ z = (r, ρ, w) := by
  unfold liftN at h
  split at h
  · rename_i d1 e1
    split at h
    · rename_i r e
      exact ⟨d1, r, e1, e, (Option.some.inj h).symm⟩
    · cases h
  · cases h
theorem HoldAll.peeks {c : Ct} {F : Fm} {O : List Addr} {ρ : Env} {w : W} {σ : L2.St} {H : Hp} (S : SR c F O ρ w σ H) : ∀ {rs : List RV} {vs : List V} {ds : List D}, HoldAll c F O σ H rs vs → peeks ρ rs = some ds → AllP c F.dr.da O H vs ds
  | _, _, _, .nil, e => by
    cases e
    exact .nil
  | _, _, _, .cons h r, e => by
    unfold FD.peeks at e
    split at e
    · rename_i d e1
      split at e
      · rename_i ds e2
        cases e
        exact .cons (h.peek S e1) (HoldAll.peeks S r e2)
      · cases e
    · cases e

section
variable {X : Cx} {a b e : Expr} {pos : Pos} {fa fb fe : M RV}
theorem tE_then {c : Ct} {F : Fm} {O : List Addr} {ρ : Env} {w : W} {σ : L2.St} {H : Hp} {f : M RV} {β : Type} {k : RV → M β} {z : β × Env × W} (S : SR c F O ρ w σ H) (h : bindM f k ρ w = some z) {Q : VK}
    (q : ∀ v O1 ρ1 w1 H1 r, SR c F O1 ρ1 w1 σ H1 → Ex (vis O H) (vis O1 H1) → RepR c F (vis O H) O1 ρ1 w1 σ H1 r v → k r ρ1 w1 = some z → Q v H1) : tE c F f σ H Q := by
  obtain ⟨r, ρ1, w1, e1, e2⟩ := bindM_some h
  exact ⟨O, ρ, w, r, ρ1, w1, S, e1, fun v O1 H1 S1 x R => q v O1 ρ1 w1 H1 r S1 x R e2⟩
theorem tT_then {c : Ct} {F : Fm} {O : List Addr} {ρ : Env} {w : W} {σ : L2.St} {H : Hp} {f : M Bool} {β : Type} {k : Bool → M β} {z : β × Env × W} (S : SR c F O ρ w σ H) (h : bindM f k ρ w = some z) {Q : Bool → Hp → Prop}
    (q : ∀ b O1 ρ1 w1 H1, SR c F O1 ρ1 w1 σ H1 → Ex (vis O H) (vis O1 H1) → k b ρ1 w1 = some z → Q b H1) : tT c F f σ H Q := by
  obtain ⟨r, ρ1, w1, e1, e2⟩ := bindM_some h
  exact ⟨O, ρ, w, r, ρ1, w1, S, e1, fun O1 H1 S1 x => q r O1 ρ1 w1 H1 S1 x e2⟩
theorem tA_then {c : Ct} {F : Fm} {O : List Addr} {ρ : Env} {w : W} {σ : L2.St} {H : Hp} {f : M (List RV)} {β : Type} {k : List RV → M β} {z : β × Env × W} (S : SR c F O ρ w σ H) (h : bindM f k ρ w = some z) {Q : List V → Hp → Prop}
    (q : ∀ vs O1 ρ1 w1 H1 rs, SR c F O1 ρ1 w1 σ H1 → Ex (vis O H) (vis O1 H1) → HoldAll c F O1 σ H1 rs vs → f ρ w = some (rs, ρ1, w1) → k rs ρ1 w1 = some z → Q vs H1) : tA c F f σ H Q := by
  obtain ⟨r, ρ1, w1, e1, e2⟩ := bindM_some h
  exact ⟨O, ρ, w, r, ρ1, w1, S, e1, fun v O1 H1 S1 x R => q v O1 ρ1 w1 H1 r S1 x R e1 e2⟩

/-! ### names, constants -/
theorem fe_c {v : V} {d : D} (h : PE X e (tC v)) (r : ∀ c da G, Rep c da G v d) : FE X e (pureM (.sh d)) := fun F => PE.wk h fun σ H Q q => by
  obtain ⟨O, ρ, w, r', ρ', w', S, e, k⟩ := q
  cases e
  exact k v O H S (Ex.refl _) (r _ _ _)
theorem fe_int {i : Int} {j : Nat} : FE X (.Constant (.int i) j pos) (pureM (.sh (.int i))) := fe_c pe_int fun _ _ _ => .int i
theorem fe_bl {b : Bool} {j : Nat} : FE X (.Constant (.bool b) j pos) (pureM (.sh (.bl b))) := fe_c pe_bl fun _ _ _ => .bl b
theorem fe_non {j : Nat} : FE X (.Constant .none j pos) (pureM (.sh .non)) := fe_c pe_non fun _ _ _ => .non
theorem fe_str {x : Str} {j : Nat} : FE X (.Constant (.str x) j pos) (pureM (.sh (.str x))) := fe_c pe_str fun _ _ _ => .str x
def varM (i : Nat) : M RV := fun ρ w => match ρ[i]? with
  | some (some (.val d)) => some (.sh d, ρ, w)
  | some (some (.own _)) => some (.ow i, ρ, w)
  | _ => none
theorem fe_var {i : Nat} {x : Str} (hN : X.N[i]? = some x) (hv : Vis X.env.scope x) (hd : (x == ("__debug__" : Str)) = false := by decide) (hcd : (x == ("__classdict__" : Str)) = false := by decide) : FE X (.Name x pos) (varM i) := fun F => PE.wk (pe_var hN hv hd hcd) fun σ H Q q => by
  obtain ⟨O, ρ, w, r', ρ', w', S, e, k⟩ := q
  unfold varM at e
  split at e
  · rename_i d h
    cases e
    obtain ⟨v, h1, h2⟩ := S.val i d h
    exact ⟨v, h1, k v O H S (Ex.refl _) h2⟩
  · rename_i d h
    cases e
    obtain ⟨a, o, h1, h2⟩ := S.own i d h
    exact ⟨_, h1, k _ O H S (Ex.refl _) ⟨h1, d, h⟩⟩
  · cases e
/-! ### operators -/
def op2M (g : D → D → Option RV) (fa fb : M RV) : M RV := bindM fa fun r1 => bindM fb fun r2 => lift2 g r1 r2
theorem op2_read {c : Ct} {F : Fm} {g : D → D → Option RV} {σ : L2.St} {H : Hp} {Q : VK} (h : tE c F (op2M g fa fb) σ H Q) : tOp (rP2 c g) (tE c F fa) (tE c F fb) σ H Q := by
  obtain ⟨O, ρ, w, r, ρ', w', S, e, k⟩ := h
  refine tE_then S e fun x O1 ρ1 w1 H1 r1 S1 e1 R1 h1 => ?_
  refine tE_then S1 h1 fun y O2 ρ2 w2 H2 r2 S2 e2 R2 h2 => ?_
  obtain ⟨d1, d2, r', p1, p2, eg, ez⟩ := lift2_some h2
  cases ez
  exact ⟨F.dr.da, O2, d1, d2, r, S2.trk, (R1.hold.mono e2).peek S2 p1, R2.hold.peek S2 p2, eg, fun v H3 e3 n => k v O2 H3 (S2.grow e3) ((e1.trans e2).trans (vis_mono e3)) ((n.out S2 e3).less (e1.trans e2))⟩
theorem fe_op {op : Operator} {g : D → D → Option RV} (ho : OpR X (binaryOp op) (rP2 (ct X) g)) (ha : FE X a fa) (hb : FE X b fb) : FE X (.BinOp a op b pos) (op2M g fa fb) := fun F =>
  PE.wk (pe_op ho (ha F) (hb F)) fun σ H Q h => op2_read h
theorem fe_cmp {op : CmpOp} {g : D → D → Option RV} (ho : OpR X (compareOp op) (rP2 (ct X) g)) (ha : FE X a fa) (hb : FE X b fb) (hm : behindInMarks op b = false) : FE X (.Compare a [op] [b] pos) (op2M g fa fb) := fun F =>
  PE.wk (pe_cmpR ho (ha F) (hb F) hm) fun σ H Q h => op2_read h
def op1M (g : D → Option RV) (fa : M RV) : M RV := bindM fa fun r1 => lift1 g r1
theorem fe_un {op : UnaryOp} {g : D → Option RV} (ho : UnR X (unaryOp op) (rP1 (ct X) g)) (ha : FE X a fa) : FE X (.UnaryOp op a pos) (op1M g fa) := fun F =>
  PE.wk (pe_un ho (ha F)) fun σ H Q h => by
    obtain ⟨O, ρ, w, r, ρ', w', S, e, k⟩ := h
    refine tE_then S e fun x O1 ρ1 w1 H1 r1 S1 e1 R1 h1 => ?_
    obtain ⟨d1, r', p1, eg, ez⟩ := lift1_some h1
    cases ez
    exact ⟨F.dr.da, O1, d1, r, S1.trk, R1.hold.peek S1 p1, eg, fun v H3 e3 n => k v O1 H3 (S1.grow e3) (e1.trans (vis_mono e3)) ((n.out S1 e3).less e1)⟩

/-! ### tests -/
def asB : RV → Option Bool
  | .sh (.bl b) => some b
  | _ => none
def boolM (f : M RV) : M Bool := bindM f fun r => fun ρ w => match asB r with
  | some b => some (b, ρ, w)
  | none => none
theorem boolM_some {r : RV} {ρ : Env} {w : W} {z : Bool × Env × W} (h : (match asB r with | some b => some (b, ρ, w) | none => none) = some z) : ∃ b, r = .sh (.bl b) ∧ z = (b, ρ, w) := by
  split at h
  · rename_i b e
    unfold asB at e
    split at e
    · cases e
      exact ⟨b, rfl, (Option.some.inj h).symm⟩
    · cases e
  · cases h
theorem bool_read {c : Ct} {F : Fm} {f : M RV} {σ : L2.St} {H : Hp} {Q : Bool → Hp → Prop} (h : tT c F (boolM f) σ H Q) : tB (tE c F f) σ H Q := by
  obtain ⟨O, ρ, w, b, ρ', w', S, e, k⟩ := h
  refine tE_then S e fun x O1 ρ1 w1 H1 r1 S1 e1 R1 h1 => ?_
  obtain ⟨b', er, ez⟩ := boolM_some h1
  subst er
  cases ez
  cases R1
  exact ⟨_, rfl, k O1 H1 S1 e1⟩
theorem ft_val (h : FE X e fe) (he : ∀ whole, isTrue e X.env whole = (do let v ← whole; standAt e.pos; holding [v] (truthy v)) := by intro _; rfl) : FT X e (boolM fe) := fun F =>
  PT.wk (pt_val (h F) he) fun σ H Q q => bool_read q
theorem ft_cmp {op : CmpOp} {g : D → D → Option RV} (ho : OpR X (compareOp op) (rP2 (ct X) g)) (ha : FE X a fa) (hb : FE X b fb) (hm : behindInMarks op b = false) : FT X (.Compare a [op] [b] pos) (boolM (op2M g fa fb)) := fun F =>
  PT.wk (pt_cmpR ho (ha F) (hb F) hm) fun σ H Q q => by
    have q' := bool_read q
    exact op2_read q'
variable {ta tb : M Bool} {rest : List Expr}
def andT (ta tb : M Bool) : M Bool := bindM ta fun b => if b then tb else pureM false
def orT (ta tb : M Bool) : M Bool := bindM ta fun b => if b then pureM true else tb
def notT (ta : M Bool) : M Bool := bindM ta fun b => pureM (!b)
theorem fw_or1 (ha : FT X a ta) : FW X (.BoolOp .Or [a] pos) ta := fun F => pw_or1 (ha F)
theorem fw_or (ha : FT X a ta) (hb : FW X (.BoolOp .Or (b :: rest) pos) tb) : FW X (.BoolOp .Or (a :: b :: rest) pos) (orT ta tb) := fun F => PW.wk (pw_or (ha F) (hb F)) fun σ H Q q => by
  obtain ⟨O, ρ, w, r, ρ', w', S, e, k⟩ := q
  refine tT_then S e fun b O1 ρ1 w1 H1 S1 e1 h1 => ?_
  cases b with
  | false => exact ⟨O1, ρ1, w1, r, ρ', w', S1, h1, fun O2 H2 S2 e2 => k O2 H2 S2 (e1.trans e2)⟩
  | true =>
    cases h1
    exact k O1 H1 S1 e1
theorem ft_w {t : M Bool} (h : FW X e t) : FT X e t := fun F => (h F).pt
theorem ft_not (ha : FT X a ta) : FT X (.UnaryOp .Not a pos) (notT ta) := fun F => PT.wk (pt_not (ha F)) fun σ H Q q => by
  obtain ⟨O, ρ, w, r, ρ', w', S, e, k⟩ := q
  refine tT_then S e fun b O1 ρ1 w1 H1 S1 e1 h1 => ?_
  cases h1
  exact k O1 H1 S1 e1
/-- as values: truth values but for the last -/
def andM (fa fb : M RV) : M RV := bindM (boolM fa) fun b => if b then fb else pureM (.sh (.bl false))
def orM (fa fb : M RV) : M RV := bindM (boolM fa) fun b => if b then pureM (.sh (.bl true)) else fb
def notM (fa : M RV) : M RV := bindM (boolM fa) fun b => pureM (.sh (.bl (!b)))
theorem boolM_then {c : Ct} {F : Fm} {O : List Addr} {ρ : Env} {w : W} {σ : L2.St} {H : Hp} {f : M RV} {β : Type} {k : Bool → M β} {z : β × Env × W} (S : SR c F O ρ w σ H) (h : bindM (boolM f) k ρ w = some z) {Q : VK}
    (q : ∀ b O1 ρ1 w1 H1, SR c F O1 ρ1 w1 σ H1 → Ex (vis O H) (vis O1 H1) → k b ρ1 w1 = some z → Q (.bl b) H1) : tE c F f σ H Q := by
  obtain ⟨b, ρ1, w1, e1, e2⟩ := bindM_some h
  refine tE_then S e1 fun x O1 ρ1' w1' H1 r1 S1 x1 R1 h1 => ?_
  obtain ⟨b', er, ez⟩ := boolM_some h1
  subst er
  cases ez
  cases R1
  exact q _ O1 _ _ H1 S1 x1 e2
theorem fe_one {op : BoolOp} (h : FE X a fa) : FE X (.BoolOp op [a] pos) fa := fun F => pe_one (h F)
theorem fe_and (ha : FE X a fa) (hb : FE X (.BoolOp .And (b :: rest) pos) fb) : FE X (.BoolOp .And (a :: b :: rest) pos) (andM fa fb) := fun F => PE.wk (pe_and (ha F) (hb F)) fun σ H Q q => by
  obtain ⟨O, ρ, w, r, ρ', w', S, e, k⟩ := q
  refine boolM_then S e fun b O1 ρ1 w1 H1 S1 e1 h1 => ⟨b, rfl, ?_⟩
  cases b with
  | true => exact ⟨O1, ρ1, w1, r, ρ', w', S1, h1, fun v O2 H2 S2 e2 R => k v O2 H2 S2 (e1.trans e2) (R.less e1)⟩
  | false =>
    cases h1
    exact k _ O1 H1 S1 e1 (Rep.bl false)
def ifM {α : Type} (t : M Bool) (f g : M α) : M α := bindM t fun b => if b then f else g
theorem fe_ifExp {t : Expr} (ht : FT X t ta) (ha : FE X a fa) (hb : FE X b fb) : FE X (.IfExp t a b pos) (ifM ta fa fb) := fun F => PE.wk (pe_ifExp (ht F) (ha F) (hb F)) fun σ H Q q => by
  obtain ⟨O, ρ, w, r, ρ', w', S, e, k⟩ := q
  refine tT_then S e fun b O1 ρ1 w1 H1 S1 e1 h1 => ?_
  cases b with
  | false => exact ⟨O1, ρ1, w1, r, ρ', w', S1, h1, fun v O2 H2 S2 e2 R => k v O2 H2 S2 (e1.trans e2) (R.less e1)⟩
  | true => exact ⟨O1, ρ1, w1, r, ρ', w', S1, h1, fun v O2 H2 S2 e2 R => k v O2 H2 S2 (e1.trans e2) (R.less e1)⟩

/-! ### argument lists -/
def consA (f : M RV) (g : M (List RV)) : M (List RV) := bindM f fun r => bindM g fun rs => pureM (r :: rs)
theorem fa_nil : FA X [] (pureM []) := ⟨fun F => PA.wk pa_nil fun σ H Q q => by
  obtain ⟨O, ρ, w, r, ρ', w', S, e, k⟩ := q
  cases e
  exact k [] O H S (Ex.refl _) .nil, fun ρ w rs ρ' w' h => by cases h; rfl⟩
theorem fa_cons {es : List Expr} {g : M (List RV)} (ha : FE X e fe) (hr : FA X es g) (hs : starEach (e :: es) X.env = (false, eval e X.env) :: starEach es X.env := by rfl) : FA X (e :: es) (consA fe g) := ⟨fun F => PA.wk (pa_cons (ha F) (hr.run F) hs) fun σ H Q q => by
  obtain ⟨O, ρ, w, r, ρ', w', S, e, k⟩ := q
  refine tE_then S e fun x O1 ρ1 w1 H1 r1 S1 e1 R1 h1 => ?_
  refine tA_then S1 h1 fun vs O2 ρ2 w2 H2 rs S2 e2 R2 _ h2 => ?_
  cases h2
  exact k (x :: vs) O2 H2 S2 (e1.trans e2) (.cons (R1.hold.mono e2) R2), fun ρ w rs ρ' w' h => by
    obtain ⟨r, ρ1, w1, _, h1⟩ := bindM_some h
    obtain ⟨rs', ρ2, w2, h2, h3⟩ := bindM_some h1
    cases h3
    simp [hr.len _ _ _ _ _ h2]⟩

/-! ### what escapes -/
def escR : RV → M D
  | .sh d => pureM d
  | .fr d => pureM d
  | .ow i => fun ρ w => match ρ[i]? with
    | some (some (.own d)) => some (d, ρ.set i (some (.val d)), w)
    | some (some (.val d)) => some (d, ρ, w)
    | _ => none
def escAll : List RV → M (List D)
  | [] => pureM []
  | r :: rs => bindM (escR r) fun d => bindM (escAll rs) fun ds => pureM (d :: ds)
end

section
variable {c : Ct} {F : Fm} {O : List Addr} {ρ : Env} {w : W} {σ : L2.St} {H : Hp}
theorem getElem?_set_some {α : Type} {l : List α} {i j : Nat} {x y : α} (h : (l.set i x)[j]? = some y) : (i = j ∧ x = y) ∨ (i ≠ j ∧ l[j]? = some y) := by
  by_cases e : i = j
  · subst e
    by_cases hl : i < l.length
    · rw [List.getElem?_set_self hl] at h
      exact .inl ⟨rfl, Option.some.inj h⟩
    · rw [List.getElem?_eq_none (by simpa using hl)] at h
      cases h
  · rw [List.getElem?_set_ne e] at h
    exact .inr ⟨e, h⟩
/-- an owned thing is given away: from now on it is only looked at -/
theorem SR.freezeE {i : Nat} {d : D} (S : SR c F O ρ w σ H) (h : ρ[i]? = some (some (Slot.own d))) :
    ∃ a O', σ[i]? = some (some (V.ref a)) ∧ SR c F O' (ρ.set i (some (.val d))) w σ H ∧ Ex (vis O H) (vis O' H) ∧ Rep c F.dr.da (vis O' H) (.ref a) d ∧ a ∉ O' ∧ a ∈ O ∧ a ∉ F.O0 ∧ ∃ o, H a = some o ∧ Obj c F.dr.da (vis O H) o d := by
  obtain ⟨a, o, h1, h2, h3, h4, h5⟩ := S.own i d h
  have sub : ∀ b, b ∈ O.filter (fun b => decide (b ≠ a)) ↔ b ∈ O ∧ b ≠ a := fun b => by simp [List.mem_filter]
  have k : Ex (vis O H) (vis (O.filter (fun b => decide (b ≠ a))) H) := vis_sub fun b hb => ((sub b).mp hb).1
  have na : a ∉ O.filter (fun b => decide (b ≠ a)) := fun z => ((sub a).mp z).2 rfl
  have rp : Rep c F.dr.da (vis (O.filter (fun b => decide (b ≠ a))) H) (.ref a) d := (h5.mono k).rep (by rw [vis_out na]; exact h4)
  refine ⟨a, _, h1, ⟨by rw [List.length_set]; exact S.len, S.base, fun b hb => S.new b ((sub b).mp hb).1, fun b hb => (sub b).mpr ⟨S.sub b hb, fun z => h3 (z ▸ hb)⟩, S.drs, fun b hb => S.trk b ((sub b).mp hb).1, S.draw, fun j e q => ?_, fun j e q => ?_, fun j j' e e' b q q' => ?_⟩, k, rp, na, h2, h3, o, h4, h5⟩
  · rcases getElem?_set_some q with ⟨rfl, z⟩ | ⟨_, q⟩
    · cases z
      exact ⟨_, h1, rp⟩
    · obtain ⟨v, q1, q2⟩ := S.val j e q
      exact ⟨v, q1, q2.mono k⟩
  · rcases getElem?_set_some q with ⟨rfl, z⟩ | ⟨ne, q⟩
    · cases z
    · obtain ⟨b, u, q1, q2, q3, q4, q5⟩ := S.own j e q
      refine ⟨b, u, q1, (sub b).mpr ⟨q2, fun z => ?_⟩, q3, q4, q5.mono k⟩
      rw [z] at q1
      exact ne (S.uni i j d e a h q h1 q1)
  · rcases getElem?_set_some q with ⟨rfl, z⟩ | ⟨ne, q⟩
    · cases z
    · rcases getElem?_set_some q' with ⟨rfl, z⟩ | ⟨ne', q'⟩
      · cases z
      · exact S.uni j j' e e' b q q'
theorem SR.freeze {i : Nat} {d : D} (S : SR c F O ρ w σ H) (h : ρ[i]? = some (some (Slot.own d))) :
    ∃ a O', σ[i]? = some (some (V.ref a)) ∧ SR c F O' (ρ.set i (some (.val d))) w σ H ∧ Ex (vis O H) (vis O' H) ∧ Rep c F.dr.da (vis O' H) (.ref a) d := by
  obtain ⟨a, O', h1, h2, h3, h4, _⟩ := S.freezeE h
  exact ⟨a, O', h1, h2, h3, h4⟩
theorem escR_ok {r : RV} {v : V} {d : D} {ρ' : Env} {w' : W} (S : SR c F O ρ w σ H) (h : Hold c F O σ H r v) (e : escR r ρ w = some (d, ρ', w')) :
    w' = w ∧ ∃ O', SR c F O' ρ' w σ H ∧ Ex (vis O H) (vis O' H) ∧ Rep c F.dr.da (vis O' H) v d := by
  cases r with
  | sh d' =>
    cases e
    exact ⟨rfl, O, S, Ex.refl _, h⟩
  | fr d' =>
    cases e
    exact ⟨rfl, O, S, Ex.refl _, h⟩
  | ow i =>
    have h' : σ[i]? = some (some v) := h
    simp only [escR] at e
    split at e
    · rename_i d' q
      cases e
      obtain ⟨a, O', h1, S', k, r⟩ := S.freeze q
      rw [h'] at h1
      cases h1
      exact ⟨rfl, O', S', k, r⟩
    · rename_i d' q
      cases e
      obtain ⟨u, h1, h2⟩ := S.val i _ q
      rw [h'] at h1
      cases h1
      exact ⟨rfl, O, S, Ex.refl _, h2⟩
    · cases e
theorem escAll_ok : ∀ {rs : List RV} {vs : List V} {ds : List D} {ρ : Env} {ρ' : Env} {w' : W} {O : List Addr}, SR c F O ρ w σ H → HoldAll c F O σ H rs vs → escAll rs ρ w = some (ds, ρ', w') →
    w' = w ∧ ∃ O', SR c F O' ρ' w σ H ∧ Ex (vis O H) (vis O' H) ∧ RepAll c F.dr.da (vis O' H) vs ds
  | _, _, _, _, _, _, O, S, .nil, e => by
    cases e
    exact ⟨rfl, O, S, Ex.refl _, .nil⟩
  | _, _, _, _, _, _, O, S, .cons h hr, e => by
    obtain ⟨d, ρ1, w1, e1, e2⟩ := bindM_some e
    obtain ⟨ds, ρ2, w2, e3, e4⟩ := bindM_some e2
    obtain ⟨ew, O1, S1, k1, r1⟩ := escR_ok S h e1
    rw [ew] at e3
    obtain ⟨ew2, O2, S2, k2, r2⟩ := escAll_ok S1 (hr.mono k1) e3
    cases e4
    exact ⟨ew2, O2, S2, k1.trans k2, .cons (r1.mono k2) r2⟩
end
section
variable {X : Cx} {es : List Expr} {pos : Pos} {fa : M (List RV)}
def tupM (fa : M (List RV)) : M RV := bindM fa fun rs => bindM (escAll rs) fun ds => pureM (.sh (.tup ds))
def lstM (fa : M (List RV)) : M RV := bindM fa fun rs => bindM (escAll rs) fun ds => pureM (.fr (.lst ds))
theorem small_fits {n : Nat} (h : n ≤ 1000000) : n ≤ sizeLine := Nat.le_trans h (by decide)
theorem fe_tup {x1 : Nat} (h : FA X es fa) (hl : es.length ≤ 1000000 := by decide) : FE X (.Tuple es x1 pos) (tupM fa) := fun F => PE.wk (pe_tup (h.run F)) fun σ H Q q => by
  obtain ⟨O, ρ, w, r, ρ', w', S, e, k⟩ := q
  refine tA_then S e fun vs O1 ρ1 w1 H1 rs S1 e1 R1 f1 h1 => ?_
  obtain ⟨ds, ρ2, w2, h2, h3⟩ := bindM_some h1
  obtain ⟨rfl, O2, S2, k2, r2⟩ := escAll_ok S1 R1 h2
  cases h3
  have hv : vs.length ≤ 1000000 := by rw [← R1.length, h.len _ _ _ _ _ f1]; exact hl
  refine ⟨small_fits hv, fun p np => ?_⟩
  have x2 : Ex H1 (upd H1 p (.tup vs)) := Ex.new np
  have nO : p ∉ O2 := fun z => by
    obtain ⟨o, q, _⟩ := S2.trk p z
    rw [np] at q
    cases q
  refine k _ O2 _ (S2.grow x2) ((e1.trans k2).trans (vis_mono x2)) (.tup ?_ (r2.mono (vis_mono x2)))
  rw [vis_out nO]
  exact upd_same
theorem fe_lst (h : FA X es fa) (hl : es.length ≤ 1000000 := by decide) : FE X (.List es pos) (lstM fa) := fun F => PE.wk (pe_lst (h.run F)) fun σ H Q q => by
  obtain ⟨O, ρ, w, r, ρ', w', S, e, k⟩ := q
  refine tA_then S e fun vs O1 ρ1 w1 H1 rs S1 e1 R1 f1 h1 => ?_
  obtain ⟨ds, ρ2, w2, h2, h3⟩ := bindM_some h1
  obtain ⟨rfl, O2, S2, k2, r2⟩ := escAll_ok S1 R1 h2
  cases h3
  have hv : vs.length ≤ 1000000 := by rw [← R1.length, h.len _ _ _ _ _ f1]; exact hl
  refine ⟨small_fits hv, fun p np => ?_⟩
  have x2 : Ex H1 (upd H1 p (.lst vs)) := Ex.new np
  obtain ⟨S3, n3, k3⟩ := S2.hide np x2 upd_same
  exact k _ O2 _ (S2.grow x2) ((e1.trans k2).trans (vis_mono x2)) ⟨p, _, rfl, n3, S3, upd_same, .inl ⟨vs, ds, rfl, rfl, r2.mono k3⟩, (e1.trans k2).trans k3⟩
end
end FD

end sec_FD2
section sec_FD3
set_option maxRecDepth 100000
set_option maxHeartbeats 5000000
/-! FD3: calls, objects, statements, loops. -/
namespace FD
open PySem L2
variable [Tabl]

/-- all but the draws is kept -/
def Kp (dr : Dr) (H H' : Hp) : Prop := ∀ a o, H a = some o → a ∉ dr.as → H' a = some o
/-- a def's promise in plain data -/
def spD (c : Ct) (n : Nat) (den : List D → W → Option (RV × W)) : Sp := fun vs H Q _ => ∃ dr O0 w ds r w', (∀ a ∈ dr.as, a ∈ O0) ∧ (∀ a ∈ O0, ∃ o, H a = some o ∧ NT o) ∧ DrawAt dr w H ∧ RepAll c dr.da (vis O0 H) vs ds ∧ ds.length = n ∧ den ds w = some (r, w') ∧
  ∀ v H', Kp dr H H' → DrawAt dr w' H' → RepN c dr.da O0 H H' r v → Q v H'

section
variable {c : Ct} {F : Fm} {O : List Addr} {ρ : Env} {w w' : W} {σ : L2.St} {H H' : Hp} {r : RV} {v : V}
theorem DrawAt.mem {dr : Dr} {a : Addr} (h : DrawAt dr w H) (m : a ∈ dr.as) : ∃ o, H a = some o ∧ NT o := by
  rcases List.mem_append.mp m with m | m
  · unfold Dr.ds at m
    split at m
    · rename_i t e
      obtain ⟨q1, q2, q3, _⟩ := h.1 t e
      simp only [List.mem_cons, List.not_mem_nil, or_false] at m
      rcases m with rfl | rfl | rfl
      · exact ⟨_, q1, fun _ z => nomatch z⟩
      · exact ⟨_, q2, fun _ z => nomatch z⟩
      · exact ⟨_, q3, fun _ z => nomatch z⟩
    · cases m
  · obtain ⟨p, hp, rfl⟩ := List.mem_map.mp m
    obtain ⟨ps, e, _⟩ := h.2 p hp
    exact ⟨_, e, fun _ z => nomatch z⟩
theorem vis_kp {dr : Dr} (hd : ∀ a ∈ dr.as, a ∈ O) (k : Kp dr H H') : Ex (vis O H) (vis O H') := fun b o h => by
  obtain ⟨n, q⟩ := vis_some h
  rw [vis_out n]
  exact k b o q fun z => n (hd b z)
theorem SR.drO (S : SR c F O ρ w σ H) : ∀ a ∈ F.dr.as, a ∈ O := fun a h => S.sub a (S.drs a h)
theorem SR.kept (S : SR c F O ρ w σ H) (k : Kp F.dr H H') (hw : DrawAt F.dr w' H') : SR c F O ρ w' σ H' where
  len := S.len
  base := fun a o h n => k _ _ (S.base a o h n) n
  new := S.new
  sub := S.sub
  drs := S.drs
  trk := fun a h => by
    by_cases q : a ∈ F.dr.as
    · exact hw.mem q
    · obtain ⟨o, e, nt⟩ := S.trk a h
      exact ⟨o, k _ _ e q, nt⟩
  draw := hw
  val := fun i d h => let ⟨v, h1, h2⟩ := S.val i d h; ⟨v, h1, h2.mono (vis_kp S.drO k)⟩
  own := fun i d h => let ⟨a, o, h1, h2, h3, h4, h5⟩ := S.own i d h; ⟨a, o, h1, h2, h3, k _ _ h4 fun z => h3 (S.drs a z), h5.mono (vis_kp S.drO k)⟩
  uni := S.uni
theorem SR.hideK {a : Addr} {o : HO} (S : SR c F O ρ w σ H) (n : H a = none) (k : Kp F.dr H H') (hw : DrawAt F.dr w' H') (q : H' a = some o) (nt : NT o) : SR c F (a :: O) ρ w' σ H' ∧ a ∉ O ∧ Ex (vis O H) (vis (a :: O) H') := by
  have S' := S.kept k hw
  have nO : a ∉ O := fun z => by
    obtain ⟨u, hu, _⟩ := S.trk a z
    rw [n] at hu
    cases hu
  have k : Ex (vis O H) (vis (a :: O) H') := fun b u hb => by
    obtain ⟨m, hb⟩ := vis_some hb
    rw [vis_out fun z => ?_]
    · exact k _ _ hb fun z => m (S.drO b z)
    · rcases List.mem_cons.mp z with z | z
      · rw [z, n] at hb
        cases hb
      · exact m z
  refine ⟨⟨S.len, S'.base, fun b h m => ?_, fun b h => List.mem_cons_of_mem _ (S.sub b h), S.drs, fun b h => ?_, S'.draw, fun i d h => ?_, fun i d h => ?_, S'.uni⟩, nO, k⟩
  · rcases List.mem_cons.mp h with z | z
    · subst z
      cases z : F.H0 b with
      | none => rfl
      | some u =>
        have nd : b ∉ F.dr.as := fun y => m (S.drs b y)
        rw [S.base b u z nd] at n
        cases n
    · exact S.new b z m
  · rcases List.mem_cons.mp h with z | z
    · rw [z]
      exact ⟨o, q, nt⟩
    · exact S'.trk b z
  · obtain ⟨u, h1, h2⟩ := S.val i d h
    exact ⟨u, h1, h2.mono k⟩
  · obtain ⟨b, u, h1, h2, h3, h4, h5⟩ := S.own i d h
    obtain ⟨b', u', h1', _, _, h4', _⟩ := S'.own i d h
    rw [h1] at h1'
    cases h1'
    refine ⟨b, u', h1, List.mem_cons_of_mem _ h2, h3, h4', ?_⟩
    have e : u' = u := by
      have nb : b ∉ F.dr.as := fun z => h3 (S.drs b z)
      have z := ‹Kp F.dr H H'› _ _ h4 nb
      rw [z] at h4'
      exact (Option.some.inj h4').symm
    rw [e]
    exact h5.mono k
theorem RepN.outK (S : SR c F O ρ w σ H) (k : Kp F.dr H H') (hw : DrawAt F.dr w' H') (h : RepN c F.dr.da O H H' r v) : RepR c F (vis O H) O ρ w' σ H' r v := by
  cases r with
  | sh d => exact h
  | ow i => exact h.elim
  | fr d =>
    obtain ⟨a, o, rfl, n, q, ob⟩ := h
    obtain ⟨S1, n1, k1⟩ := S.hideK n k hw q ob.nt
    exact ⟨a, o, rfl, n1, S1, q, ob, k1⟩
end

/-! ### forms of calls -/
/-- no argument is starred -/
abbrev Plain1 (X : Cx) (e : Expr) (es : List Expr) : Prop := starEach (e :: es) X.env = (false, eval e X.env) :: starEach es X.env
abbrev PlainR (X : Cx) (es : List Expr) (pos : Pos) : Prop := (backTo pos (starEach es X.env)).any (·.1) = false
abbrev NotDebug (x : Str) : Prop := (x == ("__debug__" : Str)) = false
/-! ### calls -/
structure CalD (P : Program) (w : World) (K : PySem.W.Frag) (mg : Str → Option Value) (base : Heap) (k : Nat) (x : Str) (n : Nat) (dd : List D) (den : List D → W → Option (RV × W)) : Prop where
  ex : ∃ (f : Addr) (fd : FuncData) (ps : List Str) (ds : List Value) (dvs : List V), FnOk P w K mg base CX0 k f fd ps (spD ⟨K, mg⟩ n den) ∧ mg x = some (.ref f) ∧ PySem.W.keepIn K (.ref f) = true ∧ Binds K fd ps ds ∧ Vals dvs ds ∧ ∀ da G, RepAll ⟨K, mg⟩ da G dvs dd
/-- a method m of the class cn -/
structure MetD (P : Program) (w : World) (K : PySem.W.Frag) (mg : Str → Option Value) (base : Heap) (k : Nat) (cn m : Str) (n : Nat) (dd : List D) (den : List D → W → Option (RV × W)) : Prop where
  ex : ∃ (C f : Addr) (fd : FuncData) (ps : List Str) (ds : List Value) (dvs : List V), mg cn = some (.ref C) ∧ Cls K C ∧ Meth K C m f ∧ FnOk P w K mg base CX0 k f fd ps (spD ⟨K, mg⟩ n den) ∧ Binds K fd ps ds ∧ Vals dvs ds ∧ ∀ da G, RepAll ⟨K, mg⟩ da G dvs dd
/-- a property of the class cn -/
structure PrpD (P : Program) (w : World) (K : PySem.W.Frag) (mg : Str → Option Value) (base : Heap) (k : Nat) (cn m : Str) (den : List D → W → Option (RV × W)) : Prop where
  ex : ∃ (C p g : Addr) (fd : FuncData) (ps : List Str), mg cn = some (.ref C) ∧ Cls K C ∧ PropOf K C m p g ∧ FnOk P w K mg base CX0 k g fd ps (spD ⟨K, mg⟩ 1 den) ∧ Binds K fd ps []
/-- an attribute of the class cn -/
structure FldD (K : PySem.W.Frag) (mg : Str → Option Value) (cn f : Str) : Prop where
  ex : ∃ C, mg cn = some (.ref C) ∧ Cls K C ∧ NoAttr K C f
def runD (den : List D → W → Option (RV × W)) (ds : List D) : M RV := fun ρ w => match den ds w with
  | some (r, w') => some (r, ρ, w')
  | none => none
theorem runD_some {den : List D → W → Option (RV × W)} {ds : List D} {ρ : Env} {w : W} {z : RV × Env × W} (h : runD den ds ρ w = some z) : ∃ r w', den ds w = some (r, w') ∧ z = (r, ρ, w') := by
  unfold runD at h
  split at h
  · rename_i r w' e
    exact ⟨r, w', e, (Option.some.inj h).symm⟩
  · cases h
def callM (den : List D → W → Option (RV × W)) (dd : List D) (fa : M (List RV)) : M RV := bindM fa fun rs => bindM (escAll rs) fun ds => runD den (ds ++ dd)
def alt {α : Type} (f g : M α) : M α := fun ρ w => match f ρ w with
  | some z => some z
  | none => g ρ w
theorem RepAll.len2 {c : Ct} {da : Option Addr} {G : Hp} {vs : List V} {ds : List D} (h : RepAll c da G vs ds) : ds.length = vs.length := h.length.symm
section
variable {X : Cx} {e o : Expr} {es : List Expr} {pos p apos : Pos} {x m f cn : Str} {k j n : Nat} {dd : List D} {den : List D → W → Option (RV × W)} {fa : M (List RV)} {fo fe fe' : M RV}
theorem fe_alt (h1 : FE X e fe) (h2 : FE X e fe') : FE X e (alt fe fe') := fun F => ⟨fun pins s σ H Q I q => by
  obtain ⟨O, ρ, w, r, ρ', w', S, e, k⟩ := q
  unfold alt at e
  split at e
  · rename_i z ez
    cases e
    exact (h1 F).run pins s σ H Q I ⟨O, ρ, w, r, ρ', w', S, ez, k⟩
  · exact (h2 F).run pins s σ H Q I ⟨O, ρ, w, r, ρ', w', S, e, k⟩⟩
theorem sp_of {c : Ct} {F : Fm} {O : List Addr} {ρ : Env} {w w' : W} {σ : L2.St} {H : Hp} {vs : List V} {ds : List D} {r : RV} {Q : VK} {E : XK} {n : Nat} (S : SR c F O ρ w σ H) (hr : RepAll c F.dr.da (vis O H) vs ds) (hn : ds.length = n) (hd : den ds w = some (r, w'))
    (q : ∀ v H', SR c F O ρ w' σ H' → Ex (vis O H) (vis O H') → RepR c F (vis O H) O ρ w' σ H' r v → Q v H') : spD c n den vs H Q E :=
  ⟨F.dr, O, w, ds, r, w', S.drO, S.trk, S.draw, hr, hn, hd, fun v H' k hw n => q v H' (S.kept k hw) (vis_kp S.drO k) (n.outK S k hw)⟩
/-- f(..) -/
theorem fe_call (cl : CalD X.prog X.w X.K X.mg X.base k x n dd den) (hr : Room j X.A) (hg : Gl X x) (ha : FA X (e :: es) fa) (hk : k ≤ j := by decide) (hn : (e :: es).length + dd.length = n := by rfl)
    (hdb : NotDebug x := by decide) (he : Plain1 X e es := by rfl) (hpl : PlainR X es pos := by rfl) :
    FE X (.Call (.Name x p) (e :: es) [] pos) (callM den dd fa) := fun F => by
  obtain ⟨f, fd, ps, ds, dvs, FO, hm, kp, b, d, rd⟩ := cl.ex
  refine PE.wk (pe_call FO (hr.mono hk) hg hm kp b d pass0 (ha.run F) hdb he hpl) fun σ H Q q => ?_
  obtain ⟨O, ρ, w, r, ρ', w', S, e, k⟩ := q
  refine tA_then S e fun vs O1 ρ1 w1 H1 rs S1 e1 R1 f1 h1 => ?_
  obtain ⟨ds1, ρ2, w2, h2, h3⟩ := bindM_some h1
  obtain ⟨rfl, O2, S2, k2, r2⟩ := escAll_ok S1 R1 h2
  obtain ⟨r', w3, h4, ez⟩ := runD_some h3
  cases ez
  refine sp_of (E := E0) S2 (r2.append (rd _ _)) ?_ h4 fun v H' S3 e3 R3 => k v O2 H' S3 ((e1.trans k2).trans e3) (R3.less (e1.trans k2))
  rw [List.length_append, r2.len2, ← R1.length, ha.len _ _ _ _ _ f1]
  exact hn
/-- the receiver: an instance of cn whose own attributes do not hide m -/
def selfR (cn m : Str) (r : RV) : M D := bindM (escR r) fun d => match d with
  | .ins c' gs => if c' = cn ∧ gs.lookup m = none then pureM d else failM
  | _ => failM
def methM (cn m : Str) (den : List D → W → Option (RV × W)) (dd : List D) (fo : M RV) (fa : M (List RV)) : M RV :=
  bindM fo fun r => bindM (selfR cn m r) fun d => bindM fa fun rs => bindM (escAll rs) fun ds => runD den (d :: (ds ++ dd))
end
end FD

end sec_FD3
section sec_FD4
set_option maxRecDepth 100000
set_option maxHeartbeats 5000000
/-! FD4: statements. -/
namespace FD
open PySem L2
variable [Tabl]

section
variable {c : Ct} {F : Fm} {G : Hp} {O : List Addr} {ρ ρ' : Env} {w w' : W} {σ : L2.St} {H : Hp} {r : RV} {v : V} {d : D} {i : Nat}
theorem SR.setVal (S : SR c F O ρ w σ H) (i : Nat) (r : Rep c F.dr.da (vis O H) v d) : SR c F O (ρ.set i (some (.val d))) w (σ.set i (some v)) H where
  len := by rw [List.length_set, List.length_set]; exact S.len
  base := S.base
  new := S.new
  sub := S.sub
  drs := S.drs
  trk := S.trk
  draw := S.draw
  val := fun j e h => by
    rcases getElem?_set_some h with ⟨rfl, z⟩ | ⟨n, h⟩
    · cases z
      have hl : i < ρ.length := by
        have := (List.getElem?_eq_some_iff.mp h).1
        rw [List.length_set] at this
        exact this
      exact ⟨v, List.getElem?_set_self (by rw [← S.len]; exact hl), r⟩
    · obtain ⟨u, h1, h2⟩ := S.val j e h
      exact ⟨u, by rw [List.getElem?_set_ne n]; exact h1, h2⟩
  own := fun j e h => by
    rcases getElem?_set_some h with ⟨rfl, z⟩ | ⟨n, h⟩
    · cases z
    · obtain ⟨a, o, h1, h2⟩ := S.own j e h
      exact ⟨a, o, by rw [List.getElem?_set_ne n]; exact h1, h2⟩
  uni := fun j j' e e' a h h' q q' => by
    rcases getElem?_set_some h with ⟨rfl, z⟩ | ⟨n, h⟩
    · cases z
    · rcases getElem?_set_some h' with ⟨rfl, z⟩ | ⟨n', h'⟩
      · cases z
      · rw [List.getElem?_set_ne n] at q
        rw [List.getElem?_set_ne n'] at q'
        exact S.uni j j' e e' a h h' q q'
/-- a hidden thing that no slot owns gets its slot -/
theorem SR.setOwn {a : Addr} {o : HO} (S : SR c F O ρ w σ H) (i : Nat) (hO : a ∈ O) (h0 : a ∉ F.O0) (q : H a = some o) (ob : Obj c F.dr.da (vis O H) o d) (nu : ∀ (j : Nat) e, ρ[j]? = some (some (Slot.own e)) → σ[j]? ≠ some (some (V.ref a))) :
    SR c F O (ρ.set i (some (.own d))) w (σ.set i (some (.ref a))) H where
  len := by rw [List.length_set, List.length_set]; exact S.len
  base := S.base
  new := S.new
  sub := S.sub
  drs := S.drs
  trk := S.trk
  draw := S.draw
  val := fun j e h => by
    rcases getElem?_set_some h with ⟨rfl, z⟩ | ⟨n, h⟩
    · cases z
    · obtain ⟨u, h1, h2⟩ := S.val j e h
      exact ⟨u, by rw [List.getElem?_set_ne n]; exact h1, h2⟩
  own := fun j e h => by
    rcases getElem?_set_some h with ⟨rfl, z⟩ | ⟨n, h⟩
    · cases z
      have hl : i < ρ.length := by
        have := (List.getElem?_eq_some_iff.mp h).1
        rw [List.length_set] at this
        exact this
      exact ⟨a, o, List.getElem?_set_self (by rw [← S.len]; exact hl), hO, h0, q, ob⟩
    · obtain ⟨a, o, h1, h2⟩ := S.own j e h
      exact ⟨a, o, by rw [List.getElem?_set_ne n]; exact h1, h2⟩
  uni := fun j j' e e' b h h' q q' => by
    rcases getElem?_set_some h with ⟨rfl, z⟩ | ⟨n, h⟩
    · rcases getElem?_set_some h' with ⟨rfl, z'⟩ | ⟨n', h'⟩
      · rfl
      · rw [List.getElem?_set_ne n'] at q'
        rcases getElem?_set_some q with ⟨_, y⟩ | ⟨y, _⟩
        · cases y
          exact absurd q' (nu j' e' h')
        · exact absurd rfl y
    · rcases getElem?_set_some h' with ⟨rfl, z'⟩ | ⟨n', h'⟩
      · rw [List.getElem?_set_ne n] at q
        rcases getElem?_set_some q' with ⟨_, y⟩ | ⟨y, _⟩
        · cases y
          exact absurd q (nu j e h)
        · exact absurd rfl y
      · rw [List.getElem?_set_ne n] at q
        rw [List.getElem?_set_ne n'] at q'
        exact S.uni j j' e e' b h h' q q'
def setM (i : Nat) (s : Slot) : M Unit := fun ρ w => some ((), ρ.set i (some s), w)
def asgM (i : Nat) : RV → M Unit
  | .fr d => setM i (.own d)
  | r => bindM (escR r) fun d => setM i (.val d)
theorem asg_ok (S : SR c F O ρ w σ H) (x : Ex G (vis O H)) (R : RepR c F G O ρ w σ H r v) (e : asgM i r ρ w = some ((), ρ', w')) : w' = w ∧ ∃ O', SR c F O' ρ' w (σ.set i (some v)) H ∧ Ex G (vis O' H) := by
  cases r with
  | fr d =>
    cases e
    obtain ⟨a, o, rfl, n, S1, q, ob, x1⟩ := R
    refine ⟨rfl, a :: O, S1.setOwn i List.mem_cons_self (fun z => n (S.sub a z)) q ob (fun j e h z => ?_), x1⟩
    obtain ⟨b, u, h1, h2, _⟩ := S.own j e h
    rw [h1] at z
    cases z
    exact n h2
  | sh d =>
    cases e
    exact ⟨rfl, O, S.setVal i R, x⟩
  | ow j =>
    obtain ⟨d, ρ1, w1, e1, e2⟩ := bindM_some e
    obtain ⟨rfl, O1, S1, k1, r1⟩ := escR_ok S R.hold e1
    cases e2
    exact ⟨rfl, O1, S1.setVal i r1, x.trans k1⟩
end

section
variable {X : Cx} {e : Expr} {pos pos' : Pos} {fe : M RV} {st : Stmt} {rest : List Stmt} {f g : M Fl} {x : Str} {i : Nat}
def nxM : M Unit → M Fl := fun m => bindM m fun _ => pureM .nx
theorem fs_set (hN : X.N.Nodup) (hi : X.N[i]? = some x) (hx : Loc X.env.scope x) (he : FE X e fe) (hs : swapsWith e (some (.Name x pos')) pos.line X.env = pure false := by rfl) (hf : X.fn x = true ∨ X.env.scope.names.lookup x = some .local := by first | exact .inl rfl | exact .inr rfl | assumption) :
    FS X (.Assign [.Name x pos'] e pos) (bindM fe fun r => nxM (asgM i r)) := fun F => PS.wk (ps_set hN hi hx (he F) hs hf) fun E σ H q => by
  obtain ⟨O, ρ, w, fl, ρ', w', S, e, k⟩ := q
  refine tE_then S e fun v O1 ρ1 w1 H1 r1 S1 e1 R1 h1 => ?_
  obtain ⟨_, ρ2, w2, h2, h3⟩ := bindM_some h1
  obtain ⟨rfl, O2, S2, x2⟩ := asg_ok S1 e1 R1 h2
  cases h3
  exact k _ O2 H1 S2 x2
theorem fs_ret (he : FE X e fe) : FS X (.Return (some e) pos) (bindM fe fun r => pureM (.ret r)) := fun F => PS.wk (ps_ret (he F)) fun E σ H q => by
  obtain ⟨O, ρ, w, fl, ρ', w', S, e, k⟩ := q
  refine tE_then S e fun v O1 ρ1 w1 H1 r1 S1 e1 R1 h1 => ?_
  cases h1
  exact k v σ O1 H1 S1 R1
def seqM (f g : M Fl) : M Fl := bindM f fun fl => match fl with
  | .nx => g
  | fl => pureM fl
theorem fss_nil : FSs X [] (pureM .nx) := fun F => PSs.wk pss_nil fun E σ H q => by
  obtain ⟨O, ρ, w, fl, ρ', w', S, e, k⟩ := q
  cases e
  exact k σ O H S (Ex.refl _)
theorem fss_one (h : FS X st f) : FSs X [st] f := fun F => pss_one (h F)
theorem fss_cons (h : FS X st f) (h2 : FSs X rest g) : FSs X (st :: rest) (seqM f g) := fun F => PSs.wk (pss_cons (h F) (h2 F)) fun E σ H q => by
  obtain ⟨O, ρ, w, fl, ρ', w', S, e, k⟩ := q
  obtain ⟨f1, ρ1, w1, e1, e2⟩ := bindM_some e
  refine ⟨O, ρ, w, f1, ρ1, w1, S, e1, ?_⟩
  cases f1 with
  | nx => exact fun σ1 O1 H1 S1 x1 => ⟨O1, ρ1, w1, fl, ρ', w', S1, e2, k.more x1⟩
  | ret r =>
    cases e2
    exact k
  | bk =>
    cases e2
    exact k
  | ct =>
    cases e2
    exact k
theorem fs_if {t : Expr} {a b : List Stmt} {ft : M Bool} (ht : FT X t ft) (ha : FSs X a f) (hb : FSs X b g) : FS X (.If t a b pos) (ifM ft f g) := fun F => PS.wk (ps_if (ht F) (ha F) (hb F)) fun E σ H q => by
  obtain ⟨O, ρ, w, fl, ρ', w', S, e, k⟩ := q
  refine tT_then S e fun b O1 ρ1 w1 H1 S1 e1 h1 => ?_
  cases b with
  | true => exact ⟨O1, ρ1, w1, fl, ρ', w', S1, h1, k.more e1⟩
  | false => exact ⟨O1, ρ1, w1, fl, ρ', w', S1, h1, k.more e1⟩
end

/-! ### targets -/
/-- a target: the slots js may change -/
def tG (c : Ct) (F : Fm) (js : List Nat) (g : D → M Unit) : TG := fun v σ H Q => ∃ O ρ w d ρ' w', SR c F O ρ w σ H ∧ Rep c F.dr.da (vis O H) v d ∧ g d ρ w = some ((), ρ', w') ∧
  ∀ σ' O', SR c F O' ρ' w' σ' H → Ex (vis O H) (vis O' H) → σ'.length = σ.length → (∀ j, j ∉ js → σ'[j]? = σ[j]?) → Q σ' H
def tGs (c : Ct) (F : Fm) (js : List Nat) (g : List D → M Unit) : TGs := fun vs σ H Q => ∃ O ρ w ds ρ' w', SR c F O ρ w σ H ∧ RepAll c F.dr.da (vis O H) vs ds ∧ g ds ρ w = some ((), ρ', w') ∧
  ∀ σ' O', SR c F O' ρ' w' σ' H → Ex (vis O H) (vis O' H) → σ'.length = σ.length → (∀ j, j ∉ js → σ'[j]? = σ[j]?) → Q σ' H
def FG (X : Cx) (tg : Expr) (js : List Nat) (g : D → M Unit) : Prop := ∀ F, PG X tg (tG (ct X) F js g)
def FGs (X : Cx) (ts : List Expr) (js : List Nat) (g : List D → M Unit) : Prop := ∀ F, PGs X ts (tGs (ct X) F js g)
theorem PG.wk {X : Cx} {e : Expr} {t t' : TG} (h : PG X e t) (k : ∀ v σ H Q, t' v σ H Q → t v σ H Q) : PG X e t' := ⟨fun pins s σ H v u Q I r q => h.run pins s σ H v u Q I r (k v σ H Q q)⟩
theorem PGs.wk {X : Cx} {e : List Expr} {t t' : TGs} (h : PGs X e t) (k : ∀ v σ H Q, t' v σ H Q → t v σ H Q) : PGs X e t' := ⟨fun pins s σ H v u Q I r q => h.run pins s σ H v u Q I r (k v σ H Q q)⟩
def gNameM (i : Nat) : D → M Unit := fun d => setM i (.val d)
def gNilM : List D → M Unit
  | [] => pureM ()
  | _ => failM
def gConsM (g : D → M Unit) (h : List D → M Unit) : List D → M Unit
  | d :: ds => bindM (g d) fun _ => h ds
  | _ => failM
def gTupM (g : List D → M Unit) : D → M Unit
  | .tup ds => g ds
  | _ => failM
section
variable {X : Cx} {e : Expr} {es : List Expr} {pos : Pos} {fe : M RV} {x : Str} {i : Nat} {js js' : List Nat}
theorem fg_name (hN : X.N.Nodup) (hi : X.N[i]? = some x) (hx : Loc X.env.scope x) (hf : X.fn x = true ∨ X.env.scope.names.lookup x = some .local := by first | exact .inl rfl | exact .inr rfl | assumption) : FG X (.Name x pos) [i] (gNameM i) := fun F => PG.wk (pg_name hN hi hx hf) fun v σ H Q q => by
  obtain ⟨O, ρ, w, d, ρ', w', S, r, e, k⟩ := q
  cases e
  exact k _ O (S.setVal i r) (Ex.refl _) (by rw [List.length_set]) fun j hj => List.getElem?_set_ne fun z => hj (by rw [z]; exact List.mem_singleton.mpr rfl)
theorem fgs_nil : FGs X [] [] gNilM := fun F => PGs.wk pgs_nil fun vs σ H Q q => by
  obtain ⟨O, ρ, w, ds, ρ', w', S, r, e, k⟩ := q
  cases r with
  | nil =>
    cases e
    exact ⟨rfl, k σ O S (Ex.refl _) rfl fun _ _ => rfl⟩
  | cons _ _ => cases e
theorem fgs_cons {g : D → M Unit} {h : List D → M Unit} (h1 : FG X e js g) (h2 : FGs X es js' h) (hs : (assignEach (e :: es) X.env).map (·.2) = assign e X.env :: (assignEach es X.env).map (·.2) := by rfl) : FGs X (e :: es) (js ++ js') (gConsM g h) := fun F => PGs.wk (pgs_cons (h1 F) (h2 F) hs) fun vs σ H Q q => by
  obtain ⟨O, ρ, w, ds, ρ', w', S, r, e, k⟩ := q
  cases r with
  | nil => cases e
  | cons r rr =>
    obtain ⟨_, ρ1, w1, e1, e2⟩ := bindM_some e
    refine ⟨_, _, rfl, O, ρ, w, _, ρ1, w1, S, r, e1, fun σ1 O1 S1 x1 l1 k1 => ?_⟩
    refine ⟨O1, ρ1, w1, _, ρ', w', S1, rr.mono x1, e2, fun σ2 O2 S2 x2 l2 k2 => k σ2 O2 S2 (x1.trans x2) (l2.trans l1) fun j hj => ?_⟩
    rw [k2 j fun z => hj (List.mem_append_right _ z), k1 j fun z => hj (List.mem_append_left _ z)]
theorem fg_tup {k : Nat} {g : List D → M Unit} (hc : X.calm = true) (h : FGs X es js g) (hst : (assignEach es X.env).findIdx? (·.1) = none := by rfl) (n : Nat) (hn : (assignEach es X.env).length = n := by rfl) (hg : ∀ ds ρ w z, g ds ρ w = some z → ds.length = n) : FG X (.Tuple es k pos) js (gTupM g) := fun F => PG.wk (pg_tup hc (h F) hn hst) fun v σ H Q q => by
  obtain ⟨O, ρ, w, d, ρ', w', S, r, e, k⟩ := q
  cases r with
  | @tup a xs ds s r => exact ⟨a, xs, rfl, .inl (.inl (vis_ex _ _ s)), by rw [r.length]; exact hg _ _ _ _ e, O, ρ, w, ds, ρ', w', S, r, e, k⟩
  | _ => cases e
theorem gNil_len : ∀ ds ρ w z, gNilM ds ρ w = some z → ds.length = 0
  | [], _, _, _, _ => rfl
  | _ :: _, _, _, _, h => by cases h
theorem gCons_len {g : D → M Unit} {h : List D → M Unit} {n : Nat} (k : ∀ ds ρ w z, h ds ρ w = some z → ds.length = n) : ∀ ds ρ w z, gConsM g h ds ρ w = some z → ds.length = n + 1
  | [], _, _, _, q => by cases q
  | _ :: ds, _, _, _, q => by
    obtain ⟨_, ρ1, w1, e1, e2⟩ := bindM_some q
    rw [List.length_cons, k ds _ _ _ e2]
end

/-! ### a, b = x, y: what is new stays new -/
/-- values that are pending: the new ones (at P) hidden, of no slot -/
inductive Got (c : Ct) (da : Option Addr) (O : List Addr) (H : Hp) : List Addr → List RV → List V → Prop
  | nil : Got c da O H [] [] []
  | sh {P : List Addr} {rs : List RV} {vs : List V} {v : V} {d : D} : Rep c da (vis O H) v d → Got c da O H P rs vs → Got c da O H P (.sh d :: rs) (v :: vs)
  | fr {P : List Addr} {rs : List RV} {vs : List V} {a : Addr} {o : HO} {d : D} : a ∈ O → a ∉ P → H a = some o → Obj c da (vis O H) o d → Got c da O H P rs vs → Got c da O H (a :: P) (.fr d :: rs) (.ref a :: vs)
theorem Got.mono {c : Ct} {da : Option Addr} {O O' : List Addr} {H : Hp} (s : ∀ a ∈ O, a ∈ O') (e : Ex (vis O H) (vis O' H)) : ∀ {P : List Addr} {rs : List RV} {vs : List V}, Got c da O H P rs vs → Got c da O' H P rs vs
  | _, _, _, .nil => .nil
  | _, _, _, .sh h r => .sh (h.mono e) (Got.mono s e r)
  | _, _, _, .fr h1 h2 h3 h4 r => .fr (s _ h1) h2 h3 (h4.mono e) (Got.mono s e r)
/-- pending values of the frame F -/
def Pend (c : Ct) (F : Fm) (O : List Addr) (ρ : Env) (σ : L2.St) (H : Hp) (rs : List RV) (vs : List V) : Prop := ∃ P, Got c F.dr.da O H P rs vs ∧ ∀ a ∈ P, a ∉ F.O0 ∧ ∀ (j : Nat) e, ρ[j]? = some (some (Slot.own e)) → σ[j]? ≠ some (some (V.ref a))
/-- the frame with one more thing that must stand -/
def Fm.and (F : Fm) (a : Addr) (o : HO) : Fm := ⟨F.dr, a :: F.O0, fun b => if b = a then some o else F.H0 b⟩
section
variable {c : Ct} {F : Fm} {O : List Addr} {ρ : Env} {w : W} {σ : L2.St} {H : Hp} {a : Addr} {o : HO}
theorem SR.in (S : SR c F (a :: O) ρ w σ H) (h0 : a ∉ F.O0) (nu : ∀ (j : Nat) e, ρ[j]? = some (some (Slot.own e)) → σ[j]? ≠ some (some (V.ref a))) (q : H a = some o) : SR c (F.and a o) (a :: O) ρ w σ H where
  len := S.len
  base := fun b u h n => by
    by_cases z : b = a
    · subst z
      have h : (if b = b then some o else F.H0 b) = some u := h
      rw [if_pos rfl] at h
      cases h
      exact q
    · have h : (if b = a then some o else F.H0 b) = some u := h
      rw [if_neg z] at h
      exact S.base b u h n
  new := fun b h n => by
    have z : b ≠ a := fun z => n (by rw [z]; exact List.mem_cons_self)
    show (if b = a then some o else F.H0 b) = none
    rw [if_neg z]
    exact S.new b h fun y => n (List.mem_cons_of_mem _ y)
  sub := fun b h => by
    rcases List.mem_cons.mp h with z | z
    · rw [z]
      exact List.mem_cons_self
    · exact S.sub b z
  drs := fun b h => List.mem_cons_of_mem _ (S.drs b h)
  trk := S.trk
  draw := S.draw
  val := S.val
  own := fun i d h => by
    obtain ⟨b, u, h1, h2, h3, h4, h5⟩ := S.own i d h
    refine ⟨b, u, h1, h2, fun z => ?_, h4, h5⟩
    rcases List.mem_cons.mp z with z | z
    · rw [z] at h1
      exact nu i d h h1
    · exact h3 z
  uni := S.uni
theorem SR.out (S : SR c (F.and a o) O ρ w σ H) (h0 : a ∉ F.O0) (hn : F.H0 a = none) (hd : ∀ b ∈ F.dr.as, b ∈ F.O0) : SR c F O ρ w σ H ∧ H a = some o ∧ a ∈ O ∧ ∀ (j : Nat) e, ρ[j]? = some (some (Slot.own e)) → σ[j]? ≠ some (some (V.ref a)) := by
  have ha : a ∉ F.dr.as := fun z => h0 (hd a z)
  refine ⟨⟨S.len, fun b u h n => S.base b u ?_ n, fun b h n => ?_, fun b h => S.sub b (List.mem_cons_of_mem _ h), hd, S.trk, S.draw, S.val, fun i d h => ?_, S.uni⟩, S.base a o (show (if a = a then some o else F.H0 a) = some o from if_pos rfl) ha, S.sub a List.mem_cons_self, fun j e h z => ?_⟩
  · show (if b = a then some o else F.H0 b) = some u
    rw [if_neg fun z => by rw [z, hn] at h; cases h]
    exact h
  · by_cases z : b = a
    · rw [z]
      exact hn
    · have q : (if b = a then some o else F.H0 b) = none := S.new b h fun y => by
        rcases List.mem_cons.mp y with y | y
        · exact z y
        · exact n y
      rw [if_neg z] at q
      exact q
  · obtain ⟨b, u, h1, h2, h3, h4, h5⟩ := S.own i d h
    exact ⟨b, u, h1, h2, fun z => h3 (List.mem_cons_of_mem _ z), h4, h5⟩
  · obtain ⟨b, u, h1, h2, h3, _⟩ := S.own j e h
    rw [h1] at z
    cases z
    exact h3 List.mem_cons_self
end
/-- what came out, no slot's own -/
def offR : RV → M RV
  | .ow i => bindM (escR (.ow i)) fun d => pureM (.sh d)
  | r => pureM r
def pend1 (f : M RV) (g : M (List RV)) : M (List RV) := bindM f fun r => bindM (offR r) fun r' => bindM g fun rs => pureM (r' :: rs)
def tP (c : Ct) (F : Fm) (f : M (List RV)) : TA := fun σ H Q => ∃ O ρ w rs ρ' w', SR c F O ρ w σ H ∧ f ρ w = some (rs, ρ', w') ∧
  ∀ vs O' H', SR c F O' ρ' w' σ H' → Ex (vis O H) (vis O' H') → Pend c F O' ρ' σ H' rs vs → Q vs H'
def FP (X : Cx) (es : List Expr) (f : M (List RV)) : Prop := ∀ F, PA X es (tP (ct X) F f)
section
variable {X : Cx} {e : Expr} {es : List Expr} {pos : Pos} {fe : M RV} {g : M (List RV)}
theorem fp_nil : FP X [] (pureM []) := fun F => PA.wk pa_nil fun σ H Q q => by
  obtain ⟨O, ρ, w, r, ρ', w', S, e, k⟩ := q
  cases e
  exact k [] O H S (Ex.refl _) ⟨[], .nil, fun _ z => nomatch z⟩
theorem fp_cons (ha : FE X e fe) (hr : FP X es g) (hs : starEach (e :: es) X.env = (false, eval e X.env) :: starEach es X.env := by rfl) : FP X (e :: es) (pend1 fe g) := fun F => ⟨fun p pins s σ H Q I q => by
  obtain ⟨O, ρ, w, rs, ρ', w', S, e, k⟩ := q
  rw [hs]
  show wpAny _ _ (spliced ((false, eval _ X.env) :: backTo p (starEach es X.env))) _ _ s
  refine Calls.spliced_cons (thn ((ha F).run pins s σ H _ I (tE_then (Q := fun v H1 => ∃ O1 ρ1 w1 r1, SR (ct X) F O1 ρ1 w1 σ H1 ∧ Ex (vis O H) (vis O1 H1) ∧ RepR (ct X) F (vis O H) O1 ρ1 w1 σ H1 r1 v ∧ (bindM (offR r1) fun r' => bindM g fun rs => pureM (r' :: rs)) ρ1 w1 = some (rs, ρ', w')) S e fun v O1 ρ1 w1 H1 r1 S1 e1 R1 h1 => ⟨O1, ρ1, w1, r1, S1, e1, R1, h1⟩)) fun u s1 ⟨x, H1, I1, rx, O1, ρ1, w1, r1, S1, e1, R1, h1⟩ => ?_)
  obtain ⟨r2, ρ2, w2, h2, h3⟩ := bindM_some h1
  obtain ⟨rs3, ρ3, w3, h4, h5⟩ := bindM_some h3
  cases h5
  have old : ∀ {d : D} {O2 : List Addr}, SR (ct X) F O2 ρ2 w2 σ H1 → Ex (vis O H) (vis O2 H1) → Rep (ct X) F.dr.da (vis O2 H1) x d → r2 = .sh d → wpAny (model X.prog X.w) X.A (spliced (backTo p (starEach es X.env))) (fun us s2 => AP X pins σ Q (u :: us) s2) X.xe s1 := fun {d O2} S2 x2 rp er => by
    subst er
    refine thn ((hr F).run p pins s1 σ H1 _ I1 ⟨O2, ρ2, w2, rs3, ρ', w', S2, h4, fun vs O3 H3 S3 x3 P3 => ?_⟩) fun us s2 ⟨vs, H3, I3, r3, q3⟩ => ⟨x :: vs, H3, I3, .cons rx r3, q3⟩
    obtain ⟨P, gt, pp⟩ := P3
    exact k (x :: vs) O3 H3 S3 (x2.trans x3) ⟨P, .sh (rp.mono x3) gt, pp⟩
  cases r1 with
  | sh d =>
    cases h2
    exact old S1 e1 R1 rfl
  | ow i =>
    obtain ⟨d, ρ4, w4, h6, h7⟩ := bindM_some h2
    obtain ⟨rfl, O2, S2, k2, r2'⟩ := escR_ok S1 R1.hold h6
    cases h7
    exact old S2 (e1.trans k2) r2' rfl
  | fr d =>
    cases h2
    obtain ⟨a, o, rfl, n, S2, q, ob, x2⟩ := R1
    have nF : a ∉ F.O0 := fun z => n (S1.sub a z)
    have nu : ∀ (j : Nat) e, ρ1[j]? = some (some (Slot.own e)) → σ[j]? ≠ some (some (V.ref a)) := fun j e h z => by
      obtain ⟨b, u, h1, h2, _⟩ := S1.own j e h
      rw [h1] at z
      cases z
      exact n h2
    have S3 := S2.in nF nu q
    refine thn ((hr (F.and a o)).run p pins s1 σ H1 _ I1 ⟨a :: O1, _, _, rs3, ρ', w', S3, h4, fun vs O3 H3 S4 x3 P3 => ?_⟩) fun us s2 ⟨vs, H3, I3, r3, q3⟩ => ⟨_ :: vs, H3, I3, .cons rx r3, q3⟩
    obtain ⟨S5, q5, m5, u5⟩ := S4.out nF (S2.new a List.mem_cons_self nF) S1.drs
    obtain ⟨P, gt, pp⟩ := P3
    refine k (.ref a :: vs) O3 H3 S5 (x2.trans x3) ⟨a :: P, .fr m5 (fun z => (pp a z).1 List.mem_cons_self) q5 (ob.mono x3) gt, fun b hb => ?_⟩
    rcases List.mem_cons.mp hb with z | z
    · rw [z]
      exact ⟨nF, u5⟩
    · exact ⟨fun y => (pp b z).1 (List.mem_cons_of_mem _ y), (pp b z).2⟩⟩
def parM : List Nat → List RV → M Unit
  | [], [] => pureM ()
  | i :: is, .sh d :: rs => bindM (setM i (.val d)) fun _ => parM is rs
  | i :: is, .fr d :: rs => bindM (setM i (.own d)) fun _ => parM is rs
  | _, _ => failM
def setAll (σ : L2.St) : List Nat → List V → L2.St
  | i :: is, v :: vs => setAll (σ.set i (some v)) is vs
  | _, _ => σ
theorem par_ok {c : Ct} {F : Fm} : ∀ {is : List Nat} {rs : List RV} {vs : List V} {O : List Addr} {ρ ρ' : Env} {w w' : W} {σ : L2.St} {H : Hp}, SR c F O ρ w σ H → Pend c F O ρ σ H rs vs → parM is rs ρ w = some ((), ρ', w') → SR c F O ρ' w' (setAll σ is vs) H
  | [], _, _, O, ρ, ρ', w, w', σ, H, S, ⟨P, gt, pp⟩, e => by
    cases gt with
    | nil =>
      cases e
      exact S
    | _ => cases e
  | i :: is, _, _, O, ρ, ρ', w, w', σ, H, S, ⟨P, gt, pp⟩, e => by
    cases gt with
    | nil => cases e
    | @sh P rs vs v d r gt =>
      obtain ⟨_, ρ1, w1, e1, e2⟩ := bindM_some e
      cases e1
      show SR c F O ρ' w' (setAll (σ.set i (some v)) is vs) H
      refine par_ok (S.setVal i r) ⟨P, gt, fun a h => ⟨(pp a h).1, fun j e q z => ?_⟩⟩ e2
      rcases getElem?_set_some q with ⟨rfl, y⟩ | ⟨n, q⟩
      · cases y
      · rw [List.getElem?_set_ne n] at z
        exact (pp a h).2 j e q z
    | @fr P rs vs a o d m n q ob gt =>
      obtain ⟨_, ρ1, w1, e1, e2⟩ := bindM_some e
      cases e1
      obtain ⟨p1, p2⟩ := pp a List.mem_cons_self
      show SR c F O ρ' w' (setAll (σ.set i (some (.ref a))) is vs) H
      refine par_ok (S.setOwn i m p1 q ob p2) ⟨P, gt, fun b h => ⟨(pp b (List.mem_cons_of_mem _ h)).1, fun j e q z => ?_⟩⟩ e2
      rcases getElem?_set_some q with ⟨rfl, y⟩ | ⟨n', q⟩
      · rcases getElem?_set_some z with ⟨_, y⟩ | ⟨y, _⟩
        · cases y
          exact n h
        · exact y rfl
      · rw [List.getElem?_set_ne n'] at z
        exact (pp b (List.mem_cons_of_mem _ h)).2 j e q z
theorem Got.len2 {c : Ct} {da : Option Addr} {O : List Addr} {H : Hp} {P : List Addr} {rs : List RV} {vs : List V} (g : Got c da O H P rs vs) : rs.length = vs.length := by
  induction g with
  | nil => rfl
  | sh _ _ ih => simp [ih]
  | fr _ _ _ _ _ ih => simp [ih]
theorem parM_len : ∀ {is : List Nat} {rs : List RV} {ρ : Env} {w : W} {z : Unit × Env × W}, parM is rs ρ w = some z → rs.length = is.length
  | [], [], _, _, _, _ => rfl
  | [], _ :: _, _, _, _, h => by cases h
  | _ :: _, [], _, _, _, h => by cases h
  | _ :: is, .sh _ :: rs, _, _, _, h => by
    obtain ⟨_, ρ1, w1, _, e2⟩ := bindM_some h
    rw [List.length_cons, parM_len e2, List.length_cons]
  | _ :: is, .fr _ :: rs, _, _, _, h => by
    obtain ⟨_, ρ1, w1, _, e2⟩ := bindM_some h
    rw [List.length_cons, parM_len e2, List.length_cons]
  | _ :: is, .ow _ :: rs, _, _, _, h => by cases h
variable {i j l : Nat} {x y z : Str} {a b c' : Expr} {px py pz pt pt2 : Pos} {kt k2 : Nat} {fp : M (List RV)}
/-- names are set together; the display is not made -/
abbrev Swaps (X : Cx) (tg e : Expr) (ns : List Str) : Prop := swappedStores [tg] e X.env = pure (some ns)
abbrev NoSole (X : Cx) (tg e : Expr) (pos : Pos) : Prop := swapsWithSole [tg] e pos.line X.env = pure false
theorem fs_par2 (hc : X.calm = true) (hN : X.N.Nodup) (hi : X.N[i]? = some x) (hj : X.N[j]? = some y) (hij : i ≠ j)
    (hx : X.env.scope.names.lookup x = some .local) (hy : X.env.scope.names.lookup y = some .local) (ha : FP X [a, b] fp)
    (hw : Swaps X (.Tuple [.Name x px, .Name y py] kt pt) (.Tuple [a, b] k2 pt2) [x, y])
    (hs : NoSole X (.Tuple [.Name x px, .Name y py] kt pt) (.Tuple [a, b] k2 pt2) pos := by rfl) :
    FS X (.Assign [.Tuple [.Name x px, .Name y py] kt pt] (.Tuple [a, b] k2 pt2) pos) (bindM fp fun rs => nxM (parM [i, j] rs)) := fun F => PS.wk (ps_par hc hN hi hj hij hx hy (ha F) hw hs) fun E σ H q => by
  obtain ⟨O, ρ, w, fl, ρ', w', S, e, k⟩ := q
  obtain ⟨rs, ρ1, w1, e1, e2⟩ := bindM_some e
  obtain ⟨_, ρ2, w2, e3, e4⟩ := bindM_some e2
  cases e4
  refine ⟨O, ρ, w, rs, ρ1, w1, S, e1, fun vs O1 H1 S1 x1 P1 => ?_⟩
  have S2 := par_ok S1 P1 e3
  obtain ⟨P, gt, _⟩ := P1
  have lv : vs.length = 2 := by rw [← gt.len2, parM_len e3] <;> rfl
  match vs, lv, S2 with
  | [v1, v2], _, S2 => exact ⟨v1, v2, rfl, k _ O1 H1 S2 x1⟩
end
end FD

end sec_FD4
section sec_FD5
set_option maxRecDepth 100000
set_option maxHeartbeats 5000000
/-! FD5: what is walked; for, while, list comprehensions. -/
namespace FD
open PySem L2
variable [Tabl]

/-- J goes through ds, while what was to be seen (G) is to be seen -/
def Wk (c : Ct) (dr : Dr) (J : It) (G : Hp) (ds : List D) : Prop := ∀ (i : Nat) O H, Ex G (vis O H) → (∀ a ∈ O, ∃ o, H a = some o ∧ NT o) → (∀ t, dr.at_ = some t → H t.2.2 = some (.lst (dr.cl.map V.int))) → (∀ d, ds[i]? = some d → J.go i H ∧ ∀ x H', J.yld i H x H' → Ex H H' ∧ Rep c dr.da (vis O H') x d) ∧ (ds.length = i → J.stop i H)
theorem SR.cel {c : Ct} {F : Fm} {O : List Addr} {ρ : Env} {w : W} {σ : L2.St} {H : Hp} (S : SR c F O ρ w σ H) : ∀ t, F.dr.at_ = some t → H t.2.2 = some (.lst (F.dr.cl.map V.int)) := fun t e => by
  obtain ⟨_, _, h, _, q⟩ := S.draw.1 t e
  rw [← q]
  exact h
def tI (c : Ct) (F : Fm) (f : M (List D)) : TI := fun σ H R => ∃ O ρ w ds ρ' w', SR c F O ρ w σ H ∧ f ρ w = some (ds, ρ', w') ∧
  ∀ J O' H', SR c F O' ρ' w' σ H' → Ex (vis O H) (vis O' H') → Wk c F.dr J (vis O' H') ds → R J H'
def FI (X : Cx) (tg iter : Expr) (f : M (List D)) : Prop := ∀ F, PI X tg iter (tI (ct X) F f)
def iterD : D → Option (List D)
  | .lst ds => some ds
  | .tup ds => some ds
  | .ktup ds => some ds
  | .str x => some (x.cps.toList.map fun c => .str ⟨#[c]⟩)
  | .scr ns => some (ns.map D.int)
  | _ => none
def iterM (r : RV) : M (List D) := bindM (escR r) fun d => fun ρ w => match iterD d with
  | some ds => some (ds, ρ, w)
  | none => none
section
variable {c : Ct} {dr : Dr} {G : Hp}
theorem wk_list {a : Addr} {xs : List V} {ds : List D} (s0 : G a = some (.lst xs)) (r : RepAll c dr.da G xs ds) : Wk c dr (Itl c.K a) G ds := fun i O H e _ _ => by
  have s' : SqL c.K H a xs := (e.trans vis_ex).sl (SqL.of s0)
  refine ⟨fun d h => ?_, fun h => ⟨xs, s', by rw [r.length]; exact Nat.le_of_eq h⟩⟩
  obtain ⟨v, h1, h2⟩ := r.get h
  refine ⟨⟨xs, v, s', h1⟩, fun x H' y => ?_⟩
  obtain ⟨rfl, y⟩ := y
  have z := y xs s'
  rw [h1] at z
  cases z
  exact ⟨Ex.refl _, h2.mono e⟩
theorem wk_scr {a : Addr} {ns : List Int} (s : SqL c.K G a (ns.map V.int)) : Wk c dr (Itl c.K a) G (ns.map D.int) := fun i O H e _ _ => by
  have s' : SqL c.K H a (ns.map V.int) := (e.trans vis_ex).sl s
  refine ⟨fun d h => ?_, fun h => ⟨_, s', by simpa using Nat.le_of_eq h⟩⟩
  obtain ⟨v, h1, h2⟩ := (RepAll.ints (c := c) (da := dr.da) (G := G) ns).get h
  refine ⟨⟨_, v, s', h1⟩, fun x H' y => ?_⟩
  obtain ⟨rfl, y⟩ := y
  have z := y _ s'
  rw [h1] at z
  cases z
  exact ⟨Ex.refl _, h2.mono e⟩
theorem wk_tup {a : Addr} {xs : List V} {ds : List D} (s : SqT c.K G a xs) (r : RepAll c dr.da G xs ds) : Wk c dr (Itt c.K a) G ds := fun i O H e _ _ => by
  have s' : SqT c.K H a xs := (e.trans vis_ex).st s
  refine ⟨fun d h => ?_, fun h => ⟨xs, s', by rw [r.length]; exact Nat.le_of_eq h⟩⟩
  obtain ⟨v, h1, h2⟩ := r.get h
  refine ⟨⟨xs, v, s', h1⟩, fun x H' y => ?_⟩
  obtain ⟨rfl, y⟩ := y
  have z := y xs s'
  rw [h1] at z
  cases z
  exact ⟨Ex.refl _, h2.mono e⟩
theorem wk_str {x : Str} : Wk c dr (Its x) G (x.cps.toList.map fun c => D.str ⟨#[c]⟩) := fun i O H e _ _ => by
  refine ⟨fun d h => ?_, fun h => ?_⟩
  · rw [List.getElem?_map] at h
    cases q : x.cps.toList[i]? with
    | none =>
      rw [q] at h
      cases h
    | some k =>
      rw [q] at h
      cases h
      have hl := (List.getElem?_eq_some_iff.mp q).1
      refine ⟨by show i < x.cps.size; simpa using hl, fun v H' y => ?_⟩
      obtain ⟨rfl, k', hk, rfl⟩ := y
      have hk2 : x.cps.toList[i]? = some k' := by simpa using hk
      rw [q] at hk2
      cases hk2
      exact ⟨Ex.refl _, .str _⟩
  · show x.cps.size ≤ i
    simpa using Nat.le_of_eq h
theorem wk_rng {lo : Int} {n : Nat} : Wk c dr (Itr lo n) G ((List.range n).map fun (i : Nat) => D.int (lo + (i : Int))) := fun i O H e _ _ => by
  refine ⟨fun d h => ?_, fun h => ?_⟩
  · rw [List.getElem?_map] at h
    cases q : (List.range n)[i]? with
    | none =>
      rw [q] at h
      cases h
    | some k =>
      rw [q] at h
      cases h
      obtain ⟨hl, hk⟩ := List.getElem?_eq_some_iff.mp q
      rw [List.getElem_range] at hk
      subst hk
      refine ⟨by show i < n; simpa using hl, fun v H' y => ?_⟩
      obtain ⟨rfl, rfl⟩ := y
      exact ⟨Ex.refl _, .int _⟩
  · show n ≤ i
    simpa using Nat.le_of_eq h
end
section
variable {X : Cx} {tg l e : Expr} {pos p : Pos} {fe : M RV} {fa : M (List RV)}
theorem fi_val (he : FE X l fe) : FI X tg l (bindM fe fun r => iterM r) := fun F => ⟨fun pins s σ H R I q => by
  obtain ⟨O, ρ, w, ds, ρ', w', S, e, k⟩ := q
  obtain ⟨r, ρ1, w1, e1, e2⟩ := bindM_some e
  obtain ⟨d, ρ2, w2, e3, e4⟩ := bindM_some e2
  have go : ∀ (Q : VK), (∀ v O2 H2, SR (ct X) F O2 ρ2 w2 σ H2 → Ex (vis O H) (vis O2 H2) → Rep (ct X) F.dr.da (vis O2 H2) v d → Q v H2) → tE (ct X) F fe σ H Q := fun Q hq => ⟨O, ρ, w, r, ρ1, w1, S, e1, fun v O1 H1 S1 x1 R1 => by
    obtain ⟨rfl, O2, S2, k2, r2⟩ := escR_ok S1 R1.hold e3
    exact hq v O2 H1 S2 (x1.trans k2) r2⟩
  cases d with
  | lst es =>
    cases e4
    refine (pi_list (he F)).run pins s σ H R I (go _ fun v O2 H2 S2 x2 r2 => ?_)
    cases r2 with
    | lst s r => exact ⟨_, rfl, ⟨_, vis_ex.sl (SqL.of s)⟩, k _ O2 H2 S2 x2 (wk_list s r)⟩
  | tup es =>
    cases e4
    refine (pi_tup (he F)).run pins s σ H R I (go _ fun v O2 H2 S2 x2 r2 => ?_)
    cases r2 with
    | tup s r => exact ⟨_, rfl, ⟨_, .inl (.inl (vis_ex _ _ s))⟩, k _ O2 H2 S2 x2 (wk_tup (.inl (.inl s)) r)⟩
  | ktup es =>
    cases e4
    refine (pi_tup (he F)).run pins s σ H R I (go _ fun v O2 H2 S2 x2 r2 => ?_)
    cases r2 with
    | ktup s r => exact ⟨_, rfl, ⟨_, vis_ex.st s⟩, k _ O2 H2 S2 x2 (wk_tup s r)⟩
  | str x =>
    cases e4
    refine (pi_str (he F)).run pins s σ H R I (go _ fun v O2 H2 S2 x2 r2 => ?_)
    cases r2
    exact ⟨_, rfl, k _ O2 H2 S2 x2 wk_str⟩
  | scr ns =>
    cases e4
    refine (pi_list (he F)).run pins s σ H R I (go _ fun v O2 H2 S2 x2 r2 => ?_)
    cases r2 with
    | scr s => exact ⟨_, rfl, ⟨_, vis_ex.sl s⟩, k _ O2 H2 S2 x2 (wk_scr s)⟩
  | _ => cases e4⟩
/-- range(n) -/
def rangeM (rs : List RV) : M (List D) := fun ρ w => match peeks ρ rs with
  | some [.int n] => if -1000000 ≤ n ∧ n ≤ 1000000 then some ((List.range n.toNat).map fun (i : Nat) => D.int (i : Int), ρ, w) else none
  | some [.int a, .int b] => if (-1000000 ≤ a ∧ a ≤ 1000000) ∧ (-1000000 ≤ b ∧ b ≤ 1000000) then some ((List.range (b - a).toNat).map fun (i : Nat) => D.int (a + (i : Int)), ρ, w) else none
  | _ => none
theorem fi_range1 (hg : Gl X "range") (hm : X.mg "range" = none) (ha : FA X [e] fa) (hs : starEach [e] X.env = [(false, eval e X.env)] := by rfl) : FI X tg (.Call (.Name "range" p) [e] [] pos) (bindM fa fun rs => rangeM rs) := fun F => ⟨fun pins s σ H R I q => by
  obtain ⟨O, ρ, w, ds, ρ', w', S, e, k⟩ := q
  refine (pi_range1 hg hm (ha.run F) hs).run pins s σ H R I ?_
  refine tA_then S e fun vs O1 ρ1 w1 H1 rs S1 e1 R1 f1 h1 => ?_
  have hl := ha.len _ _ _ _ _ f1
  unfold rangeM at h1
  split at h1
  · rename_i n hp
    split at h1
    · rename_i hn
      cases h1
      have P := R1.peeks S1 hp
      cases P with
      | cons p1 p2 =>
        cases p2
        have z := p1.int
        subst z
        refine ⟨n, rfl, by omega, by omega, k _ O1 H1 S1 e1 ?_⟩
        have W := wk_rng (c := ct X) (dr := F.dr) (G := vis O1 H1) (lo := 0) (n := n.toNat)
        simpa using W
    · cases h1
  · rename_i a b hp
    have P := R1.peeks S1 hp
    cases P with
    | cons _ p2 =>
      cases p2 with
      | cons _ p3 =>
        cases p3
        have := R1.length
        rw [hl] at this
        simp at this
  · cases h1⟩
/-! ### for -/
def forL (asg : D → M Unit) (body : M Fl) : List D → M Fl
  | [] => pureM .nx
  | d :: ds => bindM (asg d) fun _ => bindM body fun fl => match fl with
    | .nx => forL asg body ds
    | .ct => forL asg body ds
    | .bk => pureM .nx
    | .ret r => pureM (.ret r)
def forM (fi : M (List D)) (asg : D → M Unit) (body : M Fl) : M Fl := bindM fi fun ds => forL asg body ds
theorem fs_for {iter : Expr} {body : List Stmt} {fi : M (List D)} {js : List Nat} {g : D → M Unit} {fb : M Fl} (hp : PassesOwn (model X.prog X.w) X.A X.env X.xe) (hc : X.calm = true) (hi : FI X tg iter fi) (hg : FG X tg js g) (hb : FSs X body fb)
    (hs : ∀ x, foldedSetIterable iter X.env x = pure x := by intro _; rfl) : FS X (.For tg iter body [] pos) (forM fi g fb) := fun F => PS.wk (ps_for hp hc (hi F) (hg F) (hb F) hs) fun E σ H q => by
  obtain ⟨O, ρ, w, fl, ρ', w', S, e, k⟩ := q
  obtain ⟨ds, ρ1, w1, e1, e2⟩ := bindM_some e
  refine ⟨O, ρ, w, ds, ρ1, w1, S, e1, fun J O1 H1 S1 x1 W => ?_⟩
  refine ⟨fun i m σ' H' => m = ds.length - i ∧ i ≤ ds.length ∧ ∃ O' ρ' w' z, SR (ct X) F O' ρ' w' σ' H' ∧ Ex (vis O1 H1) (vis O' H') ∧ forL g fb (ds.drop i) ρ' w' = some z ∧ Done (ct X) F (vis O1 H1) z.1 z.2.1 z.2.2 E, ⟨ds.length, by simp, Nat.zero_le _, O1, ρ1, w1, (fl, ρ', w'), S1, Ex.refl _, by simpa using e2, k.more x1⟩, ?_⟩
  rintro i m σ' H' ⟨rfl, hi, O2, ρ2, w2, z, S2, x2, e3, k3⟩
  obtain ⟨hgo, hstop⟩ := W i O2 H' x2 S2.trk S2.cel
  by_cases hlt : i < ds.length
  · obtain ⟨go, yld⟩ := hgo ds[i] (by simp [hlt])
    rw [List.drop_eq_getElem_cons hlt] at e3
    obtain ⟨_, ρ3, w3, e4, e5⟩ := bindM_some e3
    obtain ⟨f4, ρ4, w4, e6, e7⟩ := bindM_some e5
    refine .inr ⟨go, fun σ5 H5 => ∃ O' ρ' w' z, SR (ct X) F O' ρ' w' σ5 H5 ∧ Ex (vis O1 H1) (vis O' H5) ∧ forL g fb (ds.drop (i + 1)) ρ' w' = some z ∧ Done (ct X) F (vis O1 H1) z.1 z.2.1 z.2.2 E, fun σ5 H5 n => ⟨ds.length - (i + 1), by omega, rfl, hlt, n⟩, fun x H3 y => ?_⟩
    obtain ⟨x3, r3⟩ := yld x H3 y
    have x3' := vis_mono (O := O2) x3
    refine ⟨O2, ρ2, w2, ds[i], ρ3, w3, S2.grow x3, r3, e4, fun σ6 O6 S6 x6 _ _ => ⟨O6, ρ3, w3, f4, ρ4, w4, S6, e6, ?_⟩⟩
    have x7 : Ex (vis O1 H1) (vis O6 H3) := (x2.trans x3').trans x6
    cases f4 with
    | nx => exact fun σ8 O8 H8 S8 x8 => ⟨O8, ρ4, w4, z, S8, x7.trans x8, e7, k3⟩
    | ct => exact fun σ8 O8 H8 S8 x8 => ⟨O8, ρ4, w4, z, S8, x7.trans x8, e7, k3⟩
    | bk =>
      cases e7
      exact fun σ8 O8 H8 S8 x8 => k3 σ8 O8 H8 S8 (x7.trans x8)
    | ret r =>
      cases e7
      exact fun v σ8 O8 H8 S8 R8 => k3 v σ8 O8 H8 S8 (R8.less x7)
  · have ei : i = ds.length := by omega
    subst ei
    rw [List.drop_length] at e3
    cases e3
    exact .inl ⟨hstop rfl, k3 σ' O2 H' S2 x2⟩

/-! ### while -/
end
end FD

end sec_FD5
section sec_FD6
set_option maxRecDepth 100000
set_option maxHeartbeats 5000000
/-! FD6: list comprehensions. -/
namespace FD
open PySem L2
variable [Tabl]
section
variable {c : Ct} {F : Fm} {O O' : List Addr} {ρ : Env} {w : W} {σ : L2.St} {H : Hp} {a : Addr}
theorem vis_congr (h : ∀ a, a ∈ O ↔ a ∈ O') : vis O H = vis O' H := by
  funext b
  by_cases q : b ∈ O
  · rw [vis_in q, vis_in ((h b).mp q)]
  · rw [vis_out q, vis_out fun z => q ((h b).mpr z)]
theorem SR.congr (S : SR c F O ρ w σ H) (h : ∀ a, a ∈ O ↔ a ∈ O') : SR c F O' ρ w σ H where
  len := S.len
  base := S.base
  new := fun b m n => S.new b ((h b).mpr m) n
  sub := fun b m => (h b).mp (S.sub b m)
  drs := S.drs
  trk := fun b m => S.trk b ((h b).mpr m)
  draw := S.draw
  val := fun i d q => by rw [← vis_congr h]; exact S.val i d q
  own := fun i d q => by
    rw [← vis_congr h]
    obtain ⟨b, o, h1, h2, h3⟩ := S.own i d q
    exact ⟨b, o, h1, (h b).mp h2, h3⟩
  uni := S.uni
/-- a hidden thing of no slot is shown -/
theorem SR.show (S : SR c F O ρ w σ H) (h0 : a ∉ F.O0) (nu : ∀ (j : Nat) e, ρ[j]? = some (some (Slot.own e)) → σ[j]? ≠ some (some (V.ref a))) : SR c F (O.filter fun b => decide (b ≠ a)) ρ w σ H ∧ Ex (vis O H) (vis (O.filter fun b => decide (b ≠ a)) H) := by
  have sub : ∀ b, b ∈ O.filter (fun b => decide (b ≠ a)) ↔ b ∈ O ∧ b ≠ a := fun b => by simp [List.mem_filter]
  have k : Ex (vis O H) (vis (O.filter (fun b => decide (b ≠ a))) H) := vis_sub fun b hb => ((sub b).mp hb).1
  refine ⟨⟨S.len, S.base, fun b hb => S.new b ((sub b).mp hb).1, fun b hb => (sub b).mpr ⟨S.sub b hb, fun z => h0 (z ▸ hb)⟩, S.drs, fun b hb => S.trk b ((sub b).mp hb).1, S.draw, fun j e q => ?_, fun j e q => ?_, S.uni⟩, k⟩
  · obtain ⟨v, q1, q2⟩ := S.val j e q
    exact ⟨v, q1, q2.mono k⟩
  · obtain ⟨b, u, q1, q2, q3, q4, q5⟩ := S.own j e q
    refine ⟨b, u, q1, (sub b).mpr ⟨q2, fun z => ?_⟩, q3, q4, q5.mono k⟩
    rw [z] at q1
    exact nu j e q q1
theorem tabs_upd {T : List (Addr × Str)} {H : Hp} {a : Addr} {o0 o : HO} (t : LamX.Tabs T H) (na : ∀ p ∈ T, p.1 ≠ a) (e0 : H a = some o0) (nx : ∀ φ, o0 ≠ .ext φ) : LamX.Tabs T (upd H a o) := fun p hp => by
  obtain ⟨ps, h1, h2, h3⟩ := t p hp
  refine ⟨ps, by rw [upd_ne (na p hp)]; exact h1, h2, fun pos cv hc => ?_⟩
  obtain ⟨c, e1, e2⟩ := h3 pos cv hc
  refine ⟨c, e1, ?_⟩
  rw [upd_ne fun z => ?_]
  · exact e2
  · rw [z, e0] at e2
    exact nx _ (Option.some.inj e2)
/-- a hidden thing of no slot is changed -/
theorem SR.poke {o0 : HO} (S : SR c F O ρ w σ H) (e0 : H a = some o0) (nx : ∀ φ, o0 ≠ .ext φ) (hO : a ∈ O) (h0 : a ∉ F.O0) (nu : ∀ (j : Nat) e, ρ[j]? = some (some (Slot.own e)) → σ[j]? ≠ some (some (V.ref a))) (o : HO) (nt : NT o := by intro _ z; cases z) : SR c F O ρ w σ (upd H a o) where
  len := S.len
  base := fun b u h n => by
    rw [upd_ne fun z => ?_]
    · exact S.base b u h n
    · rw [z, S.new a hO h0] at h
      cases h
  new := S.new
  sub := S.sub
  drs := S.drs
  trk := fun b h => by
    by_cases z : b = a
    · rw [z]
      exact ⟨o, upd_same, nt⟩
    · rw [upd_ne z]
      exact S.trk b h
  draw := by
    have nd : ∀ b ∈ F.dr.as, b ≠ a := fun b hb z => h0 (z ▸ S.drs b hb)
    exact ⟨fun t q => let ⟨q1, q2, q3, q4⟩ := S.draw.1 t q; ⟨by rw [upd_ne (nd _ (Dr.mem1 q))]; exact q1, by rw [upd_ne (nd _ (Dr.mem2 q))]; exact q2, by rw [upd_ne (nd _ (Dr.mem3 q))]; exact q3, q4⟩, tabs_upd S.draw.2 (fun p hp => nd p.1 (Dr.tab hp)) e0 nx⟩
  val := fun i d q => by
    rw [vis_upd hO]
    exact S.val i d q
  own := fun i d q => by
    rw [vis_upd hO]
    obtain ⟨b, u, q1, q2, q3, q4, q5⟩ := S.own i d q
    refine ⟨b, u, q1, q2, q3, ?_, q5⟩
    rw [upd_ne fun z => ?_]
    · exact q4
    · rw [z] at q1
      exact nu i d q q1
  uni := S.uni
theorem SR.setNone (S : SR c F O ρ w σ H) (i : Nat) : SR c F O (ρ.set i none) w (σ.set i none) H where
  len := by rw [List.length_set, List.length_set]; exact S.len
  base := S.base
  new := S.new
  sub := S.sub
  drs := S.drs
  trk := S.trk
  draw := S.draw
  val := fun j e h => by
    rcases getElem?_set_some h with ⟨rfl, z⟩ | ⟨n, h⟩
    · cases z
    · obtain ⟨u, h1, h2⟩ := S.val j e h
      exact ⟨u, by rw [List.getElem?_set_ne n]; exact h1, h2⟩
  own := fun j e h => by
    rcases getElem?_set_some h with ⟨rfl, z⟩ | ⟨n, h⟩
    · cases z
    · obtain ⟨a, o, h1, h2⟩ := S.own j e h
      exact ⟨a, o, by rw [List.getElem?_set_ne n]; exact h1, h2⟩
  uni := fun j j' e e' a h h' q q' => by
    rcases getElem?_set_some h with ⟨rfl, z⟩ | ⟨n, h⟩
    · cases z
    · rcases getElem?_set_some h' with ⟨rfl, z⟩ | ⟨n', h'⟩
      · cases z
      · rw [List.getElem?_set_ne n] at q
        rw [List.getElem?_set_ne n'] at q'
        exact S.uni j j' e e' a h h' q q'
def wipeE (ρ : Env) : List Nat → Env
  | [] => ρ
  | v :: vs => (wipeE ρ vs).set v none
theorem SR.wipe (S : SR c F O ρ w σ H) : ∀ vs : List Nat, SR c F O (wipeE ρ vs) w (L2.wipe σ vs) H
  | [] => S
  | v :: vs => (SR.wipe S vs).setNone v
/-- no slot of these is an own one -/
def noOwn (ρ : Env) (vs : List Nat) : Bool := vs.all fun i => match ρ[i]? with
  | some (some (.own _)) => false
  | _ => true
def restE (ρ0 ρ : Env) : List Nat → Env
  | [] => ρ
  | v :: vs => (restE ρ0 ρ vs).set v (ρ0[v]?.getD none)
theorem restE_len (ρ0 ρ : Env) : ∀ vs : List Nat, (restE ρ0 ρ vs).length = ρ.length
  | [] => rfl
  | v :: vs => by unfold restE; rw [List.length_set, restE_len ρ0 ρ vs]
theorem restE_get {ρ0 ρ : Env} {i : Nat} {s : Option Slot} : ∀ {vs : List Nat}, (restE ρ0 ρ vs)[i]? = some s → (i ∈ vs ∧ s = ρ0[i]?.getD none) ∨ (i ∉ vs ∧ ρ[i]? = some s)
  | [], h => .inr ⟨by simp, h⟩
  | v :: vs, h => by
    unfold restE at h
    rcases getElem?_set_some h with ⟨rfl, z⟩ | ⟨n, h⟩
    · exact .inl ⟨List.mem_cons_self, z.symm⟩
    · rcases restE_get h with ⟨m, z⟩ | ⟨m, z⟩
      · exact .inl ⟨List.mem_cons_of_mem _ m, z⟩
      · refine .inr ⟨fun y => ?_, z⟩
        rcases List.mem_cons.mp y with y | y
        · exact n y.symm
        · exact m y
theorem SR.rest {ρ2 : Env} {w2 : W} {O2 : List Addr} {H2 : Hp} {vs : List Nat} (S : SR c F O ρ w σ H) (no : noOwn ρ vs = true) (S2 : SR c F O2 ρ2 w2 (L2.wipe σ vs) H2) (x : Ex (vis O H) (vis O2 H2)) : SR c F O2 (restE ρ ρ2 vs) w2 σ H2 := by
  have nv : ∀ i ∈ vs, ∀ d, ρ[i]? ≠ some (some (Slot.own d)) := fun i hi d q => by
    have z := List.all_eq_true.mp no i hi
    rw [q] at z
    cases z
  have own' : ∀ {i : Nat} {d : D}, (restE ρ ρ2 vs)[i]? = some (some (Slot.own d)) → i ∉ vs ∧ ρ2[i]? = some (some (Slot.own d)) := fun {i d} h => by
    rcases restE_get h with ⟨m, z⟩ | h
    · cases q : ρ[i]? with
      | none =>
        rw [q] at z
        cases z
      | some t =>
        rw [q] at z
        have z' : some (Slot.own d) = t := z
        subst z'
        exact absurd q (nv i m d)
    · exact h
  refine ⟨by rw [restE_len, S2.len, wipe_length], S2.base, S2.new, S2.sub, S2.drs, S2.trk, S2.draw, fun i d h => ?_, fun i d h => ?_, fun i j d d' b h h' q q' => ?_⟩
  · rcases restE_get h with ⟨m, z⟩ | ⟨m, h⟩
    · cases q : ρ[i]? with
      | none =>
        rw [q] at z
        cases z
      | some t =>
        rw [q] at z
        have z' : some (Slot.val d) = t := z
        subst z'
        obtain ⟨v, h1, h2⟩ := S.val i d q
        exact ⟨v, h1, h2.mono x⟩
    · obtain ⟨v, h1, h2⟩ := S2.val i d h
      exact ⟨v, by rw [wipe_out m] at h1; exact h1, h2⟩
  · obtain ⟨m, h⟩ := own' h
    obtain ⟨b, o, h1, h2⟩ := S2.own i d h
    exact ⟨b, o, by rw [wipe_out m] at h1; exact h1, h2⟩
  · obtain ⟨m, h⟩ := own' h
    obtain ⟨m', h'⟩ := own' h'
    exact S2.uni i j d d' b h h' (by rw [wipe_out m]; exact q) (by rw [wipe_out m']; exact q')
end

/-- a comprehension's tests -/
def FTs (X : Cx) (ifs : List Expr) (t : M Bool) : Prop := ∀ F, PTs X ifs (tT (ct X) F t)
theorem PTs.wk {X : Cx} {e : List Expr} {t t' : TT} (h : PTs X e t) (k : ∀ σ H Q, t' σ H Q → t σ H Q) : PTs X e t' := ⟨fun pins s σ H Q I q => h.run pins s σ H Q I (k σ H Q q)⟩
theorem fts_nil {X : Cx} : FTs X [] (pureM true) := fun F => PTs.wk pts_nil fun σ H Q q => by
  obtain ⟨O, ρ, w, r, ρ', w', S, e, k⟩ := q
  cases e
  exact k O H S (Ex.refl _)
theorem fts_one {X : Cx} {e : Expr} {t : M Bool} (h : FT X e t) : FTs X [e] t := fun F => pts_one (h F)
/-- whatever the frame -/
def eE (c : Ct) (f : M RV) : TE := fun σ H Q => ∃ F, tE c F f σ H Q
def eT (c : Ct) (f : M Bool) : TT := fun σ H Q => ∃ F, tT c F f σ H Q
def eG (c : Ct) (js : List Nat) (g : D → M Unit) : TG := fun v σ H Q => ∃ F, tG c F js g v σ H Q
def eI (c : Ct) (f : M (List D)) : TI := fun σ H R => ∃ F, tI c F f σ H R
theorem FE.any {X : Cx} {e : Expr} {f : M RV} (h : FE X e f) : PE X e (eE (ct X) f) := ⟨fun pins s σ H Q I ⟨F, q⟩ => (h F).run pins s σ H Q I q⟩
theorem FTs.any {X : Cx} {e : List Expr} {f : M Bool} (h : FTs X e f) : PTs X e (eT (ct X) f) := ⟨fun pins s σ H Q I ⟨F, q⟩ => (h F).run pins s σ H Q I q⟩
theorem FG.any {X : Cx} {e : Expr} {js : List Nat} {g : D → M Unit} (h : FG X e js g) : PG X e (eG (ct X) js g) := ⟨fun pins s σ H v u Q I r ⟨F, q⟩ => (h F).run pins s σ H v u Q I r q⟩
theorem FI.any {X : Cx} {t e : Expr} {f : M (List D)} (h : FI X t e f) : PI X t e (eI (ct X) f) := ⟨fun pins s σ H Q I ⟨F, q⟩ => (h F).run pins s σ H Q I q⟩

/-! ### [elt for target in iter if ..] -/
def lcTurn (asg : D → M Unit) (test : M Bool) (elt : M RV) (d : D) : M (Option D) := bindM (asg d) fun _ => bindM test fun b => if b then bindM elt fun r => bindM (escR r) fun y => pureM (some y) else pureM none
def wipeM (vs : List Nat) : M Unit := fun ρ w => some ((), wipeE ρ vs, w)
def lcL (vs : List Nat) (asg : D → M Unit) (test : M Bool) (elt : M RV) : List D → M (List D)
  | [] => pureM []
  | d :: ds => bindM (lcTurn asg test elt d) fun y => bindM (wipeM vs) fun _ => bindM (lcL vs asg test elt ds) fun ys => pureM (y.toList ++ ys)
def lcM (fi : M (List D)) (vs : List Nat) (asg : D → M Unit) (test : M Bool) (elt : M RV) : M RV := bindM fi fun ds => fun ρ w =>
  if noOwn ρ vs = true ∧ ds.length ≤ 1000000 then match lcL vs asg test elt ds (wipeE ρ vs) w with
    | some (ys, ρ2, w2) => some (.fr (.lst ys), restE ρ ρ2 vs, w2)
    | none => none
  else none
theorem wipe_same {σ σ' : L2.St} {js vs : List Nat} (hl : σ'.length = σ.length) (h : ∀ j, j ∉ js → σ'[j]? = σ[j]?) (hj : ∀ j ∈ js, j ∈ vs) : L2.wipe σ' vs = L2.wipe σ vs := by
  apply List.ext_getElem?
  intro i
  by_cases m : i ∈ vs
  · have q : ∀ τ : L2.St, (L2.wipe τ vs)[i]? = if i < τ.length then some none else none := by
      intro τ
      clear hj h hl
      induction vs with
      | nil => cases m
      | cons v vs ih =>
        unfold L2.wipe
        by_cases e : v = i
        · subst e
          by_cases l : v < τ.length
          · rw [if_pos l, List.getElem?_set_self (by rw [wipe_length]; exact l)]
          · rw [if_neg l, List.getElem?_eq_none (by rw [List.length_set, wipe_length]; omega)]
        · rw [List.getElem?_set_ne e]
          rcases List.mem_cons.mp m with z | z
          · exact absurd z.symm e
          · exact ih z
    rw [q, q, hl]
  · rw [wipe_out m, wipe_out m]
    exact h i fun z => m (hj i z)
theorem wipe_wipe {σ : L2.St} (vs : List Nat) : L2.wipe (L2.wipe σ vs) vs = L2.wipe σ vs := wipe_same (wipe_length σ vs) (js := vs) (fun j hj => wipe_out hj) fun _ h => h
section
variable {c : Ct} {F : Fm} {σ : L2.St} {H : Hp} {Q : VK}
theorem lc_read {fi : M (List D)} {vs js : List Nat} {g : D → M Unit} {tt : M Bool} {fe : M RV} (hj : ∀ j ∈ js, j ∈ vs) (h : tE c F (lcM fi vs g tt fe) σ H Q) : tLc (eI c fi) (eG c js g) (eT c tt) (eE c fe) vs σ H Q := by
  obtain ⟨O, ρ, w, r, ρ', w', S, e, k⟩ := h
  obtain ⟨ds, ρ1, w1, e1, e2⟩ := bindM_some e
  by_cases hc : noOwn ρ1 vs = true ∧ ds.length ≤ 1000000
  · rw [if_pos hc] at e2
    obtain ⟨no, hl⟩ := hc
    split at e2
    · rename_i ys ρ2 w2 e3
      cases e2
      refine ⟨F, O, ρ, w, ds, ρ1, w1, S, e1, fun J O1 H1 S1 x1 W => ?_⟩
      intro Dl hD
      obtain ⟨S2, n2, k2⟩ := S1.hide hD (Ex.new (o := .lst []) hD) upd_same
      have nF : Dl ∉ F.O0 := fun z => n2 (S1.sub Dl z)
      have nu : ∀ {ρx : Env} {j : Nat} {e : D}, (∀ j e, ρx[j]? = some (some (Slot.own e)) → ∃ (a : Addr) (o : HO), (σ[j]? = some (some (V.ref a)) ∧ a ∈ O1)) → ρx[j]? = some (some (Slot.own e)) → σ[j]? ≠ some (some (V.ref Dl)) := fun hx q z => by
        obtain ⟨a, o, h1, h2⟩ := hx _ _ q
        rw [h1] at z
        cases z
        exact n2 h2
      -- the invariant
      refine ⟨fun i m H' => m = ds.length - i ∧ i ≤ ds.length ∧ ∃ O' ρ' wv acc dacc zs, SR c F O' ρ' wv (L2.wipe σ vs) H' ∧ Dl ∈ O' ∧ (∀ (j : Nat) e, ρ'[j]? = some (some (Slot.own e)) → (L2.wipe σ vs)[j]? ≠ some (some (V.ref Dl))) ∧ H' Dl = some (.lst acc) ∧ acc.length ≤ i ∧ RepAll c F.dr.da (vis O' H') acc dacc ∧
        Ex (vis O1 H1) (vis O' H') ∧ lcL vs g tt fe (ds.drop i) ρ' wv = some (zs, ρ2, w') ∧ dacc ++ zs = ys, ⟨ds.length, by simp, Nat.zero_le _, Dl :: O1, _, _, [], [], ys, S2.wipe vs, List.mem_cons_self, fun j e q z => ?_, upd_same, Nat.le_refl _, .nil, k2, by simpa using e3, rfl⟩, ?_⟩
      · obtain ⟨a, o, h1, h2, _⟩ := (S1.wipe vs).own j e q
        rw [h1] at z
        cases z
        exact n2 h2
      rintro i m H' ⟨rfl, hi, O3, ρ3, w3, acc, dacc, zs, S3, m3, u3, q3, l3, r3, x3, e4, ey⟩
      obtain ⟨hgo, hstop⟩ := W i O3 H' x3 S3.trk S3.cel
      by_cases hlt : i < ds.length
      · obtain ⟨go, yld⟩ := hgo ds[i] (by simp [hlt])
        rw [List.drop_eq_getElem_cons hlt] at e4
        obtain ⟨y, ρ4, w4, e5, e6⟩ := bindM_some e4
        obtain ⟨_, ρ5, w5, e7, e8⟩ := bindM_some e6
        obtain ⟨zs', ρ6, w6, e9, e10⟩ := bindM_some e8
        cases e7
        cases e10
        obtain ⟨_, ρ7, w7, e11, e12⟩ := bindM_some e5
        obtain ⟨b, ρ8, w8, e13, e14⟩ := bindM_some e12
        refine .inr ⟨go, fun H9 => ∃ O' ρ' wv acc dacc zs, SR c F O' ρ' wv (L2.wipe σ vs) H9 ∧ Dl ∈ O' ∧ (∀ (j : Nat) e, ρ'[j]? = some (some (Slot.own e)) → (L2.wipe σ vs)[j]? ≠ some (some (V.ref Dl))) ∧ H9 Dl = some (.lst acc) ∧ acc.length ≤ i + 1 ∧ RepAll c F.dr.da (vis O' H9) acc dacc ∧
          Ex (vis O1 H1) (vis O' H9) ∧ lcL vs g tt fe (ds.drop (i + 1)) ρ' wv = some (zs, ρ2, w') ∧ dacc ++ zs = ys, fun H9 n => ⟨ds.length - (i + 1), by omega, rfl, hlt, n⟩, fun x H4 yy => ?_⟩
        obtain ⟨x4, r4⟩ := yld x H4 yy
        have S4 := S3.grow x4
        have q4 := x4 _ _ q3
        have S5 : SR c (F.and Dl (.lst acc)) O3 ρ3 w3 (L2.wipe σ vs) H4 := ((S4.congr (O' := Dl :: O3) fun b => ⟨fun z => List.mem_cons_of_mem _ z, fun z => (List.mem_cons.mp z).elim (fun y => y ▸ m3) id⟩).in nF u3 q4).congr fun b => ⟨fun z => (List.mem_cons.mp z).elim (fun y => y ▸ m3) id, fun z => List.mem_cons_of_mem _ z⟩
        refine ⟨F.and Dl (.lst acc), O3, ρ3, w3, ds[i], ρ7, w7, S5, r4, e11, fun σ2 O5 S6 x6 hl6 hk6 => ?_⟩
        have ws : L2.wipe σ2 vs = L2.wipe σ vs := (wipe_same hl6 hk6 hj).trans (wipe_wipe vs)
        refine ⟨ws, F.and Dl (.lst acc), O5, ρ7, w7, b, ρ8, w8, S6, e13, fun O7 H7 S7 x7 => ?_⟩
        have x8 : Ex (vis O3 H') (vis O7 H7) := ((vis_mono x4).trans x6).trans x7
        cases b with
        | false =>
          cases e14
          obtain ⟨S8, q8, m8, u8⟩ := S7.out nF (S1.hide hD (Ex.new (o := .lst []) hD) upd_same |>.1.new Dl List.mem_cons_self nF) S1.drs
          have S9 := S8.wipe vs
          rw [ws] at S9
          exact ⟨O7, _, _, acc, dacc, zs', S9, m8, fun j e q z => by
            obtain ⟨a, o, h1, h2, h3, _⟩ := (S7.wipe vs).own j e q
            rw [ws] at h1
            rw [h1] at z
            cases z
            exact h3 List.mem_cons_self, q8, Nat.le_succ_of_le l3, r3.mono x8, x3.trans x8, e9, by simpa using ey⟩
        | true =>
          obtain ⟨r, ρ9, w9, e15, e16⟩ := bindM_some e14
          obtain ⟨yd, ρa, wa, e17, e18⟩ := bindM_some e16
          cases e18
          refine ⟨F.and Dl (.lst acc), O7, ρ8, w8, r, ρ9, w9, S7, e15, fun v O9 H9 S9 x9 R9 => ?_⟩
          obtain ⟨rfl, Oa, Sa, xa, ra⟩ := escR_ok S9 R9.hold e17
          obtain ⟨Sb, qb, mb, ub⟩ := Sa.out nF (S1.hide hD (Ex.new (o := .lst []) hD) upd_same |>.1.new Dl List.mem_cons_self nF) S1.drs
          have xb : Ex (vis O3 H') (vis Oa H9) := (x8.trans x9).trans xa
          refine ⟨acc, qb, Nat.lt_of_le_of_lt (Nat.le_trans l3 (Nat.le_trans hi hl)) (by decide), ?_⟩
          have Sc := (Sb.poke qb (fun _ z => nomatch z) mb nF ub (.lst (acc ++ [v]))).wipe vs
          rw [ws] at Sc
          refine ⟨Oa, _, _, acc ++ [v], dacc ++ [yd], zs', Sc, mb, fun j e q z => ?_, upd_same, by simp; omega, ?_, ?_, e9, by rw [List.append_assoc]; exact ey⟩
          · obtain ⟨a, o, h1, h2, h3, _⟩ := (Sa.wipe vs).own j e q
            rw [ws] at h1
            rw [h1] at z
            cases z
            exact h3 List.mem_cons_self
          · rw [vis_upd mb]
            exact (r3.mono xb).snoc ra
          · rw [vis_upd mb]
            exact x3.trans xb
      · have ei : i = ds.length := by omega
        subst ei
        rw [List.drop_length] at e4
        cases e4
        refine .inl ⟨hstop rfl, ?_⟩
        rw [List.append_nil] at ey
        subst ey
        have Sr := S1.rest no S3 x3
        have ur : ∀ (j : Nat) e, (restE ρ1 ρ2 vs)[j]? = some (some (Slot.own e)) → σ[j]? ≠ some (some (V.ref Dl)) := fun j e q z => by
          rcases restE_get q with ⟨m, y⟩ | ⟨m, y⟩
          · cases hq : ρ1[j]? with
            | none =>
              rw [hq] at y
              cases y
            | some t =>
              rw [hq] at y
              have y' : some (Slot.own e) = t := y
              subst y'
              have z := List.all_eq_true.mp no j m
              rw [hq] at z
              cases z
          · have z' := u3 j e y
            rw [wipe_out m] at z'
            exact z' z
        obtain ⟨Ss, xs⟩ := Sr.show nF ur
        have eqO : ∀ b, b ∈ O3 ↔ b ∈ Dl :: (O3.filter fun b => decide (b ≠ Dl)) := fun b => by
          simp only [List.mem_cons, List.mem_filter, decide_eq_true_eq]
          constructor
          · intro z
            by_cases y : b = Dl
            · exact .inl y
            · exact .inr ⟨z, y⟩
          · rintro (z | z)
            · rw [z]; exact m3
            · exact z.1
        refine k (.ref Dl) (O3.filter fun b => decide (b ≠ Dl)) H' Ss (x1.trans (x3.trans xs)) ⟨Dl, .lst acc, rfl, by simp, Sr.congr eqO, q3, .inl ⟨acc, dacc, rfl, rfl, ?_⟩, ?_⟩
        · rw [← vis_congr eqO]
          exact r3
        · rw [← vis_congr eqO]
          exact x1.trans x3
    · cases e2
  · rw [if_neg hc] at e2
    cases e2
end
section
variable {X : Cx} {elt tg iter : Expr} {ifs : List Expr} {scope : Scope} {own : List (Str × Nat)} {pos spos py : Pos} {fi : M (List D)} {js : List Nat} {g : D → M Unit} {tt : M Bool} {fe : M RV} {i : Nat} {y : Str}
theorem fe_lc (hc : X.calm = true) (hN : X.N.Nodup) (hi : FI X tg iter fi) (ok : BlkOk X.N X.env.scope scope own)
    (hg : ∀ (s : Shared) (H : Hp) (C : Addr) (cl : List (Str × Addr)) (fp : List Addr), FG (X.blk s H scope (compEnvC scope cl C X.env) fp) tg js g) (ht : ∀ (s : Shared) (H : Hp) (C : Addr) (cl : List (Str × Addr)) (fp : List Addr), FTs (X.blk s H scope (compEnvC scope cl C X.env) fp) ifs tt)
    (he : ∀ (s : Shared) (H : Hp) (C : Addr) (cl : List (Str × Addr)) (fp : List Addr), FE (X.blk s H scope (compEnvC scope cl C X.env) fp) elt fe) (hj : ∀ j ∈ js, j ∈ own.map (·.2) := by decide) (hs : ∀ x, foldedSetIterable iter X.env x = pure x := by intro _; rfl) :
    FE X (.ListComp elt [⟨tg, iter, ifs, 0⟩] scope pos) (lcM fi (own.map (·.2)) g tt fe) := fun F =>
  PE.wk (pe_lc hc hN hi.any ok (fun s H C cl fp => (hg s H C cl fp).any) (fun s H C cl fp => (ht s H C cl fp).any) (fun s H C cl fp => (he s H C cl fp).any) hs) fun σ H Q q => lc_read hj q
theorem fs_setLc (hc : X.calm = true) (hN : X.N.Nodup) (hy : X.N[i]? = some y) (hyl : X.env.scope.names.lookup y = some .local)
    (hsw : swapsWith (.ListComp elt [⟨tg, iter, ifs, 0⟩] scope pos) (some (.Name y py)) spos.line X.env = pure true) (hi : FI X tg iter fi) (ok : BlkOk X.N X.env.scope scope own)
    (hg : ∀ (s : Shared) (H : Hp) (C : Addr) (cl : List (Str × Addr)) (fp : List Addr), FG (X.blk s H scope (compEnvC scope cl C X.env) fp) tg js g) (ht : ∀ (s : Shared) (H : Hp) (C : Addr) (cl : List (Str × Addr)) (fp : List Addr), FTs (X.blk s H scope (compEnvC scope cl C X.env) fp) ifs tt)
    (he : ∀ (s : Shared) (H : Hp) (C : Addr) (cl : List (Str × Addr)) (fp : List Addr), FE (X.blk s H scope (compEnvC scope cl C X.env) fp) elt fe) (hj : ∀ j ∈ js, j ∈ own.map (·.2) := by decide) (hs : ∀ x, foldedSetIterable iter X.env x = pure x := by intro _; rfl) :
    FS X (.Assign [.Name y py] (.ListComp elt [⟨tg, iter, ifs, 0⟩] scope pos) spos) (bindM (lcM fi (own.map (·.2)) g tt fe) fun r => nxM (asgM i r)) := fun F =>
  PS.wk (ps_setLc hc hN hy hyl hsw hi.any ok (fun s H C cl fp => (hg s H C cl fp).any) (fun s H C cl fp => (ht s H C cl fp).any) (fun s H C cl fp => (he s H C cl fp).any) hs) fun E σ H q => by
    obtain ⟨O, ρ, w, fl, ρ', w', S, e, k⟩ := q
    refine lc_read (F := F) hj (tE_then S e fun v O1 ρ1 w1 H1 r1 S1 e1 R1 h1 => ?_)
    obtain ⟨_, ρ2, w2, h2, h3⟩ := bindM_some h1
    obtain ⟨rfl, O2, S2, x2⟩ := asg_ok S1 e1 R1 h2
    cases h3
    exact k _ O2 H1 S2 x2
end
end FD

end sec_FD6
section sec_FD7
set_option maxRecDepth 100000
set_option maxHeartbeats 5000000
/-! FD7: a def by its body; __init__ and C(..); stores into what a slot owns. -/
namespace FD
open PySem L2
variable [Tabl]
open PyProof.Rows (envOfC)

/-! ### a def -/
def startE (n : Nat) (ds : List D) : Env := ds.map (fun d => some (Slot.val d)) ++ List.replicate (n - ds.length) none
def outR (ρ : Env) : RV → Option RV
  | .ow i => match ρ[i]? with
    | some (some (.own d)) => some (.fr d)
    | some (some (.val d)) => some (.sh d)
    | _ => none
  | r => some r
def endB : Option (Fl × Env × W) → Option (RV × W)
  | some (.ret r, ρ, w) => (outR ρ r).map fun r' => (r', w)
  | some (.nx, _, w) => some (.sh .non, w)
  | _ => none
def denB (n : Nat) (body : M Fl) : List D → W → Option (RV × W) := fun ds w => endB (body (startE n ds) w)
theorem startE_own {n : Nat} {ds : List D} {i : Nat} {d : D} (h : (startE n ds)[i]? = some (some (Slot.own d))) : False := by
  unfold startE at h
  rw [List.getElem?_append] at h
  split at h
  · rw [List.getElem?_map] at h
    cases q : ds[i]? with
    | none =>
      rw [q] at h
      cases h
    | some e =>
      rw [q] at h
      cases h
  · rw [List.getElem?_replicate] at h
    split at h
    · cases h
    · cases h
theorem startE_val {n : Nat} {ds : List D} {i : Nat} {d : D} (h : (startE n ds)[i]? = some (some (Slot.val d))) : ds[i]? = some d := by
  unfold startE at h
  rw [List.getElem?_append] at h
  split at h
  · rw [List.getElem?_map] at h
    cases q : ds[i]? with
    | none =>
      rw [q] at h
      cases h
    | some e =>
      rw [q] at h
      cases h
      rfl
  · rw [List.getElem?_replicate] at h
    split at h
    · cases h
    · cases h
theorem start_get {N : List Str} {vs : List V} {i : Nat} {v : V} (h : vs[i]? = some v) : (L2.start N vs)[i]? = some (some v) := by
  unfold L2.start
  rw [List.getElem?_append_left (by rw [List.length_map]; exact (List.getElem?_eq_some_iff.mp h).1), List.getElem?_map, h]
  rfl
section
variable {c : Ct} {F : Fm} {G : Hp} {O : List Addr} {ρ : Env} {w w' : W} {σ : L2.St} {H : Hp} {r r' : RV} {v : V}
theorem outR_ok (S : SR c F O ρ w σ H) (R : RepR c F G O ρ w σ H r v) (e : outR ρ r = some r') : RepN c F.dr.da F.O0 F.H0 H r' v := by
  cases r with
  | sh d =>
    cases e
    exact Rep.mono (vis_sub S.sub) R
  | fr d =>
    cases e
    obtain ⟨a, o, rfl, n, S1, q, ob, x1⟩ := R
    have nF : a ∉ F.O0 := fun z => n (S.sub a z)
    refine ⟨a, o, rfl, S1.new a List.mem_cons_self nF, q, ob.mono (vis_sub fun b hb => ?_)⟩
    rcases List.mem_cons.mp hb with z | z
    · rw [z]
      exact List.mem_cons_self
    · exact List.mem_cons_of_mem _ (S.sub b z)
  | ow i =>
    obtain ⟨h1, d, h2⟩ := R
    unfold outR at e
    dsimp only at e
    rw [h2] at e
    cases e
    obtain ⟨a, o, q1, q2, q3, q4, q5⟩ := S.own i d h2
    rw [h1] at q1
    cases q1
    refine ⟨a, o, rfl, S.new a q2 q3, q4, q5.mono (vis_sub fun b hb => ?_)⟩
    rcases List.mem_cons.mp hb with z | z
    · rw [z]
      exact q2
    · exact S.sub b z
end
section
variable {P : Program} {w : World} {K : PySem.W.Frag} {mg : Str → Option Value} {base : Heap}
theorem start_sr {dr : Dr} {O0 : List Addr} {wd : W} {N : List Str} {vs : List V} {ds : List D} {H : Hp} (h1 : ∀ a ∈ dr.as, a ∈ O0) (h2 : ∀ a ∈ O0, ∃ o, H a = some o ∧ NT o) (h3 : DrawAt dr wd H) (h4 : RepAll ⟨K, mg⟩ dr.da (vis O0 H) vs ds) : SR ⟨K, mg⟩ ⟨dr, O0, H⟩ O0 (startE N.length ds) wd (L2.start N vs) H where
  len := by unfold startE L2.start; simp [h4.length]
  base := fun _ _ h _ => h
  new := fun a h n => absurd h n
  sub := fun _ h => h
  drs := h1
  trk := h2
  draw := h3
  val := fun i d h => by
    obtain ⟨v, q1, q2⟩ := h4.get (startE_val h)
    exact ⟨v, start_get q1, q2⟩
  own := fun i d h => (startE_own h).elim
  uni := fun i j d d' a h => (startE_own h).elim
theorem def_ok {x qual : Str} {st : Stmt} {f : Addr} {fd : FuncData} {N ps : List Str} {k : Nat} {fb : M Fl} (F : Fun K x qual st f fd) (S : FnScope N ps (defScope st))
    (hb : ∀ (cdv : Value) (A : Around) (outer : List PySem.Env) (s : Shared) (H : Hp) (E : XK), Room k (A.deeper (envOfC qual (defScope st) s.heap.objs.size f cdv)) → FSs (cxOf CX0 P w K mg base N qual (defScope st) f cdv A outer s H E).nox (defBody st) fb) :
    FnOk P w K mg base CX0 (k + 1) f fd ps (spD ⟨K, mg⟩ ps.length (denB N.length fb)) := by
  obtain ⟨oc, od, kV, doc, pm, an, cdv, ctt, osl, rfl, lk, hcd⟩ := F.ex
  refine fn_of lk hcd S (fun _ _ _ _ h => ?_) fun A outer s H vs Q E hr h => ?_
  · obtain ⟨dr, O0, wd, ds, r, w', _, _, _, h4, h5, _⟩ := h
    rw [h4.length, h5]
  · obtain ⟨dr, O0, wd, ds, r, w', h1, h2, h3, h4, h5, h6, k6⟩ := h
    refine ⟨_, PSs.nox (hb cdv A outer s H E hr ⟨dr, O0, H⟩), ?_⟩
    unfold denB at h6
    cases e : fb (startE N.length ds) wd with
    | none =>
      rw [e] at h6
      cases h6
    | some z =>
      obtain ⟨fl, ρ', w2⟩ := z
      rw [e] at h6
      refine ⟨O0, _, wd, fl, ρ', w2, start_sr h1 h2 h3 h4, e, ?_⟩
      cases fl with
      | nx =>
        cases h6
        intro σ O H' S' _
        exact k6 .non H' (fun a o q n => S'.base a o q n) S'.draw .non
      | ret r1 =>
        intro v σ O H' S' R'
        have h6 : (outR ρ' r1).map (fun r' => (r', w2)) = some (r, w') := h6
        cases q : outR ρ' r1 with
        | none =>
          rw [q] at h6
          cases h6
        | some r2 =>
          rw [q] at h6
          cases h6
          exact k6 v H' (fun a o q n => S'.base a o q n) S'.draw (outR_ok S' R' q)
      | bk => cases h6
      | ct => cases h6
end


/-! ### __init__ and C(..): the new object stands at a, hidden, of no slot; gs its attributes -/
theorem RepF.length {c : Ct} {da : Option Addr} {G : Hp} : ∀ {fs : List (Str × V)} {gs : List (Str × D)}, RepF c da G fs gs → fs.length = gs.length
  | _, _, .nil => rfl
  | _, _, .cons _ r => by simp [RepF.length r]
def NoSlot (ρ : Env) (σ : L2.St) (a : Addr) : Prop := ∀ (j : Nat) e, ρ[j]? = some (some (Slot.own e)) → σ[j]? ≠ some (some (V.ref a))
section
variable {X : Cx} {cn f x : Str} {e : Expr} {sts : List Stmt} {g : MJ} {fe : M RV} {pos pos' p : Pos}
theorem hide_in {c : Ct} {F : Fm} {O : List Addr} {ρ : Env} {w : W} {σ : L2.St} {H : Hp} {a : Addr} {o : HO} (S : SR c F O ρ w σ H) (hO : a ∈ O) (hF : a ∉ F.O0) (nu : NoSlot ρ σ a) (q : H a = some o) : SR c (F.and a o) O ρ w σ H :=
  ((S.congr (O' := a :: O) fun b => ⟨fun z => List.mem_cons_of_mem _ z, fun z => (List.mem_cons.mp z).elim (fun y => y ▸ hO) id⟩).in hF nu q).congr fun b => ⟨fun z => (List.mem_cons.mp z).elim (fun y => y ▸ hO) id, fun z => List.mem_cons_of_mem _ z⟩
end
def spI (c : Ct) (n : Nat) (cn : Str) (den : List D → W → Option (List (Str × D) × W)) : Sp := fun vs H Q _ => ∃ a C dx vs' dr O0 w ds gs w', vs = .ref a :: vs' ∧ c.mg cn = some (.ref C) ∧ H a = some (.ins C dx []) ∧ a ∉ O0 ∧ (∀ b ∈ dr.as, b ∈ O0) ∧ (∀ b ∈ O0, ∃ o, H b = some o ∧ NT o) ∧ DrawAt dr w H ∧
  RepAll c dr.da (vis (a :: O0) H) vs' ds ∧ ds.length + 1 = n ∧ den ds w = some (gs, w') ∧
  ∀ H' dx' fs, (∀ b o, H b = some o → b ≠ a → b ∉ dr.as → H' b = some o) → DrawAt dr w' H' → H' a = some (.ins C dx' fs) → RepF c dr.da (vis (a :: O0) H') fs gs → Q .non H'
section
variable {P : Program} {w : World} {K : PySem.W.Frag} {mg : Str → Option Value} {base : Heap}
end
end FD

end sec_FD7
section sec_ST1
set_option maxRecDepth 100000
set_option maxHeartbeats 5000000
/-! ST1: set(text). The library adds a text that is new to a set (Froz.add_x); here also one that is there, and the walk over a text's signs. -/
namespace ST
open PySem PySem.Spec PyProof.Rows L2
open PySem.Froz (SD sObj TxOk addTx tailTx add_x add_ok)
def nameOf : Value → Str
  | .str k _ => k
  | _ => Str.empty
def names (l : List (Int × Value)) : List Str := l.map fun e => nameOf e.2
/-- the payload D of a set holds the texts l, each once, and can be walked -/
structure Holds (P : Program) (w : World) (D : SD) (l : List Str) : Prop where
  tx : TxOk P w D l
  str : ∀ e ∈ D.1.toList, ∃ k u, e.2 = Value.str k u
  perm : (names D.1.toList).Perm l
  ris : Ris D.2.2.place.toList
  led : w.params.followText "set-order" = true ∨ D.2.2.led = true
section
variable {P : Program} {w : World} {D : SD} {l : List Str} {k : Str} {u : Tok}
theorem Holds.laid {es : Array (Int × Value)} {ep : Nat} {t t2 : SetTable} {i : Int} (h : Holds P w (es, ep, t) l) (ep2 : Nat) (same : t2.place = (layNew t es i (.str k u)).2.1.place ∧ t2.led = (layNew t es i (.str k u)).2.1.led) (tx : TxOk P w ((layNew t es i (.str k u)).1, ep2, t2) (k :: l)) :
    Holds P w ((layNew t es i (.str k u)).1, ep2, t2) (k :: l) := by
  have pm := layNew_perm t es i (.str k u)
  rw [Array.toList_push] at pm
  have pc := pm.trans (List.perm_append_singleton _ _)
  refine ⟨tx, fun e he => ?_, (pc.map _).trans (h.perm.cons k), ?_, ?_⟩
  · rcases List.mem_cons.mp (pc.mem_iff.mp he) with rfl | old
    · exact ⟨k, u, rfl⟩
    · exact h.str e old
  · rw [same.1]
    exact layNew_ris t es i _ h.ris
  · rw [same.2, layNew_led]
    exact h.led
theorem Holds.empty {b : Bool} (hb : w.params.followText "set-order" = true ∨ b = true) : Holds P w (#[], 0, .fresh 0 0 b) [] := by
  refine ⟨.nil rfl, ?_, .nil, .nil, hb⟩
  intro e he
  cases he
/-! ### adding -/
variable {A : Around} {E : Value → Shared → Prop} {s : Shared} {a : Addr}
/-- l with k in it -/
def ins (k : Str) (l : List Str) : List Str := if k ∈ l then l else k :: l
end
/-! ### a text's signs, one after another -/
section
variable {P : Program} {w : World} {A : Around} {R : Result → Shared → Prop} {I a : Addr} {fp wr : List Addr} {G : Array GenState → Array GenState → Prop} {n : Nat} {Pv : Nat → Value → Prop} {St : Nat → Shared → Prop}
end
/-! ### set(text) -/
section
variable {P : Program} {w : World} {A : Around} {E : Value → Shared → Prop} {s : Shared}
end
end ST

end sec_ST1
section sec_ST2
set_option maxRecDepth 100000
set_option maxHeartbeats 5000000
namespace ST
open PySem PySem.Spec PyProof.Rows L2

/-! ### the signs of a text, each once, ascending -/
def insN (c : Nat) : List Nat → List Nat
  | [] => [c]
  | d :: r => if c < d then c :: d :: r else if c = d then d :: r else d :: insN c r
def setN : List Nat → List Nat
  | [] => []
  | c :: r => insN c (setN r)
abbrev Up (l : List Nat) : Prop := l.Pairwise (· < ·)
theorem mem_insN {c x : Nat} : ∀ {l : List Nat}, x ∈ insN c l ↔ x = c ∨ x ∈ l
  | [] => by simp [insN]
  | d :: r => by
    unfold insN
    split
    · simp
    · split
      · rename_i h
        subst h
        simp
      · rw [List.mem_cons, mem_insN, List.mem_cons]
        constructor
        · rintro (h | h | h) <;> simp [h]
        · rintro (h | h | h) <;> simp [h]
theorem up_insN {c : Nat} : ∀ {l : List Nat}, Up l → Up (insN c l)
  | [], _ => by simp [insN]
  | d :: r, h => by
    obtain ⟨above, up⟩ := List.pairwise_cons.mp h
    unfold insN
    split
    · rename_i hc
      refine List.pairwise_cons.mpr ⟨fun x hx => ?_, h⟩
      rcases List.mem_cons.mp hx with rfl | hx
      · exact hc
      · exact Nat.lt_trans hc (above x hx)
    · split
      · exact h
      · refine List.pairwise_cons.mpr ⟨fun x hx => ?_, up_insN up⟩
        rcases mem_insN.mp hx with rfl | hx
        · omega
        · exact above x hx
theorem mem_setN {x : Nat} : ∀ {l : List Nat}, x ∈ setN l ↔ x ∈ l
  | [] => Iff.rfl
  | c :: r => by
    show x ∈ insN c (setN r) ↔ _
    rw [mem_insN, mem_setN, List.mem_cons]
theorem up_setN : ∀ l : List Nat, Up (setN l)
  | [] => List.Pairwise.nil
  | c :: r => up_insN (up_setN r)
theorem up_eq : ∀ {l m : List Nat}, Up l → Up m → (∀ x, x ∈ l ↔ x ∈ m) → l = m
  | [], [], _, _, _ => rfl
  | [], y :: m, _, _, h => by
    have := (h y).mpr List.mem_cons_self
    cases this
  | x :: l, [], _, _, h => by
    have := (h x).mp List.mem_cons_self
    cases this
  | x :: l, y :: m, hl, hm, h => by
    obtain ⟨l1, l2⟩ := List.pairwise_cons.mp hl
    obtain ⟨m1, m2⟩ := List.pairwise_cons.mp hm
    have e : x = y := by
      rcases List.mem_cons.mp ((h x).mp List.mem_cons_self) with z | z
      · exact z
      · rcases List.mem_cons.mp ((h y).mpr List.mem_cons_self) with z' | z'
        · exact z'.symm
        · have a := m1 x z
          have b := l1 y z'
          omega
    subst e
    rw [up_eq l2 m2 fun z => ?_]
    constructor
    · intro hz
      rcases List.mem_cons.mp ((h z).mp (List.mem_cons_of_mem _ hz)) with q | q
      · have := l1 z hz
        omega
      · exact q
    · intro hz
      rcases List.mem_cons.mp ((h z).mpr (List.mem_cons_of_mem _ hz)) with q | q
      · have := m1 z hz
        omega
      · exact q
def sg1 (c : Nat) : Str := ⟨#[c]⟩
/-- the texts of sorted(set(x)) -/
def sset (x : Str) : List Str := (setN x.cps.toList).map sg1
/-! ### sorted(a set of texts) -/
section
variable {P : Program} {w : World} {A : Around} {E : Value → Shared → Prop} {s : Shared} {a : Addr}
/-- what sorted leaves: a new list of the texts ys -/
structure Sorted (s s2 : Shared) (p : Addr) (ys : List Str) : Prop where
  old : ∀ b o, s.heap.get? b = some o → s2.heap.get? b = some o
  gens : s2.gens = s.gens
  os : s2.os = s.os
  new : s.heap.objs.size ≤ p
  lst : ∃ (out : Array Value) (c : Nat), s2.heap.get? p = some (seqObj "list" out c) ∧ StrsAre out.toList ys
  up : sortedS ys = true
end

/-! ### sorted(set(e)) -/
section
variable {X : Cx}
end
end ST

end sec_ST2
section sec_SK1
set_option maxRecDepth 100000
set_option maxHeartbeats 5000000
/-! SK1: sorted(texts, key=lambda one: (len(one), one)), sorted(texts, key=len). A lambda is made (LamX.lam_make2 is the library's; here all but the one table is kept). -/
namespace SK
open PySem PySem.Spec PyProof.Rows L2 LamX

section
variable {H : Hp} {T : List (Addr × Str)} {P c : Addr} {q : Str} {ps more : Array Value}
/-- H with a longer table at P and a code object at c -/
def grown (H : Hp) (P : Addr) (ps : Array Value) (c : Addr) (q : Str) : Hp := upd (upd H P (.tbl ps)) c (CodeO c q)
end
section
variable {X : Cx} {pins : List (Addr × Obj)} {σ : L2.St}
end

/-! ### the key -/
section
variable {prog : Program} {w : World} {A : Around} {s : Shared} {mg mb : Str → Option Value}
end
end SK

end sec_SK1
section sec_SK2
set_option maxRecDepth 100000
set_option maxHeartbeats 5000000
namespace SK
open PySem PySem.Spec PyProof.Rows L2 LamX PySem.W

section
variable {prog : Program} {w : World} {A : Around} {s : Shared} {mg mb : Str → Option Value}
end
/-! ### the rules -/
section
variable {X : Cx}
end
end SK

end sec_SK2
section sec_FD8
set_option maxRecDepth 100000
set_option maxHeartbeats 5000000
/-! FD8: C(..), built-in functions and operators, stores into what a slot owns. -/
namespace FD
open PySem L2
variable [Tabl]

structure MakD (P : Program) (w : World) (K : PySem.W.Frag) (mg : Str → Option Value) (base : Heap) (k : Nat) (cn : Str) (n : Nat) (dd : List D) (den : List D → W → Option (List (Str × D) × W)) : Prop where
  ex : ∃ (C f : Addr) (fd : FuncData) (ps : List Str) (ds : List Value) (dvs : List V), Mk K C f ∧ FnOk P w K mg base CX0 k f fd ps (spI ⟨K, mg⟩ n cn den) ∧ mg cn = some (.ref C) ∧ Binds K fd ps ds ∧ Vals dvs ds ∧ ∀ da G, RepAll ⟨K, mg⟩ da G dvs dd
def makM (cn : Str) (den : List D → W → Option (List (Str × D) × W)) (dd : List D) (fa : M (List RV)) : M RV := bindM fa fun rs => bindM (escAll rs) fun ds => fun ρ w => match den (ds ++ dd) w with
  | some (gs, w') => some (.sh (.ins cn gs), ρ, w')
  | none => none
section
variable {X : Cx} {e o : Expr} {es : List Expr} {pos p apos cpos : Pos} {x m f cn : Str} {k j n : Nat} {dd : List D} {fa : M (List RV)} {fo fe fe' : M RV}
/-! ### built-in functions -/
def bM (g : List D → Option RV) (fa : M (List RV)) : M RV := bindM fa fun rs => liftN g rs
theorem b_read {c : Ct} {F : Fm} {g : List D → Option RV} {σ : L2.St} {H : Hp} {Q : VK} (h : tE c F (bM g fa) σ H Q) : tCB (rPure c g) (tA c F fa) σ H Q := by
  obtain ⟨O, ρ, w, r, ρ', w', S, e, k⟩ := h
  refine tA_then S e fun vs O1 ρ1 w1 H1 rs S1 e1 R1 f1 h1 => ?_
  obtain ⟨ds, r', p1, eg, ez⟩ := liftN_some h1
  cases ez
  exact ⟨F.dr.da, O1, ds, r, S1.trk, R1.peeks S1 p1, eg, fun v H3 e3 n => k v O1 H3 (S1.grow e3) (e1.trans (vis_mono e3)) ((n.out S1 e3).less e1)⟩
theorem fe_b {id : String} {g : List D → Option RV} (hc : CallR X (.builtin id) (rPure (ct X) g)) (hg : Gl X x) (hm : X.mg x = none) (hv : bootBuiltins x = some (.builtin id)) (ha : FA X (e :: es) fa) (hn : x ≠ "__name__" := by decide) (hdb : (x == ("__debug__" : Str)) = false := by decide)
    (he : starEach (e :: es) X.env = (false, eval e X.env) :: starEach es X.env := by rfl) (hpl : (backTo pos (starEach es X.env)).any (·.1) = false := by rfl) : FE X (.Call (.Name x p) (e :: es) [] pos) (bM g fa) := fun F =>
  PE.wk (pe_callB hc hg hm hv (ha.run F) hn hdb he hpl) fun σ H Q q => b_read q
theorem fe_ty {T : String} {g : List D → Option RV} (hc : CallR X (.type T) (rPure (ct X) g)) (hg : Gl X x) (hm : X.mg x = none) (hv : bootBuiltins x = some (.type T)) (ha : FA X (e :: es) fa) (hn : x ≠ "__name__" := by decide) (hdb : (x == ("__debug__" : Str)) = false := by decide)
    (he : starEach (e :: es) X.env = (false, eval e X.env) :: starEach es X.env := by rfl) (hpl : (backTo pos (starEach es X.env)).any (·.1) = false := by rfl) : FE X (.Call (.Name x p) (e :: es) [] pos) (bM g fa) := fun F =>
  PE.wk (pe_callTy hc hg hm hv (ha.run F) hn hdb he hpl) fun σ H Q q => b_read q
theorem fe_ix {a b : Expr} {fa fb : M RV} {g : D → D → Option RV} (hr : IxR X (rP2 (ct X) g)) (ha : FE X a fa) (hb : FE X b fb) (hs : PlainIx b) : FE X (.Subscript a b pos) (op2M g fa fb) := fun F =>
  PE.wk (pe_ix hr (ha F) (hb F) hs) fun σ H Q h => op2_read h
/-- o.m(e), a method of a text -/
def strM (g : Str → D → Option RV) (fo fe : M RV) : M RV := bindM fo fun r => match r with
  | .sh (.str s) => bindM fe fun r2 => lift1 (g s) r2
  | _ => failM
/-! ### sorted(set(text)), sorted by key -/
def ssetM (f : M RV) : M RV := bindM f fun r => match r with
  | .sh (.str x) => if x.cps.size < 4000 then pureM (.fr (.lst ((ST.sset x).map D.str))) else failM
  | _ => failM
def asStr : D → Option Str
  | .str x => some x
  | _ => none
def asStrs : List D → Option (List Str)
  | [] => some []
  | d :: r => match asStr d with
    | some x => (match asStrs r with | some xs => some (x :: xs) | none => none)
    | none => none
def textsD : D → Option (List Str)
  | .lst ds => asStrs ds
  | _ => none
def sortM (srt : List Str → List Str) (f : M RV) : M RV := bindM f fun r => lift1 (fun d => match textsD d with
  | some xs => if xs.all (fun x => decide (x.length ≤ 1000000)) = true then some (.fr (.lst ((srt xs).map D.str))) else none
  | none => none) r
end
end FD

end sec_FD8
section sec_OE1
set_option maxRecDepth 100000
set_option maxHeartbeats 5000000
/-! OE: != of an instance by object.__ne__ over an own __eq__, whatever stands at the right. -/
namespace OE
open PySem PySem.Spec PyProof.Rows L2
/-- the class at C has an own __eq__ at f, and object's __ne__ -/
structure OwnEq (K : PySem.W.Frag) (C f : Addr) : Prop where
  ne : PySem.W.findIn K (.ref C) "__ne__" = some (some (.builtin "object.__ne__"))
  obj : PySem.W.subIn K (.ref C) (.type "object") = some true
  eq : PySem.W.findIn K (.ref C) "__eq__" = some (some (.ref f))
  fn : PySem.W.isFn K (.ref f) = true
section
variable {P : Program} {w : World} {A : Around} {E : Value → Shared → Prop} {s : Shared} {K : PySem.W.Frag} {x C f : Addr} {ox : Obj} {od : Option Obj} {b tb : Value}
/-- the answer of __eq__, turned about -/
def Turned (Q : Value → Shared → Prop) (v : Value) (s : Shared) : Prop := ∃ c, v = .bool c ∧ Q (.bool (!c)) s
theorem slot {Q : Value → Shared → Prop} (room : A.units + 1 < cLine) (X : K.In s.heap) (I : PySem.W.InstAt s.heap x ox C od) (O : OwnEq K C f) (run : wpAny (model P w) A.in1 (call (.ref f) [.ref x, b]) (Turned Q) E s) :
    wpAny (model P w) A (call (.builtin "object.__ne__") [.ref x, b]) Q E s := by
  apply wpAny_call
  apply codeAny_call_builtin (by decide +kernel) F.cmpEntry_ne
  apply PySem.W.check_slot (M := model P w) F.cmpKind_ne F.cmpSplit_ne (I.type.andThen (PySem.W.looks_subIn X O.obj)) (F.cmpArgs_ne _ _)
  show wpAny _ A.in1 (Builtin.«object.__ne__» _) _ _ s
  rw [Builtin.«object.__ne__»]
  apply wpAny_bind (m := slotArgs "__ne__" 1 ⟨[.ref x, b], []⟩)
  apply wpAny_pure
  apply wpAny_bind
  apply wpAny_cRoomFor (A := A.in1) room
  apply wpAny_bind
  apply PySem.W.ifBound_K X I O.eq O.fn
  apply wpAny_mono run ?_ (fun _ _ => id)
  rintro v s2 ⟨c, rfl, q⟩
  exact wpAny_bind (wpAny_truthy_bool (wpAny_pure q))
end
end OE

end sec_OE1
section sec_FD9
set_option maxRecDepth 100000
set_option maxHeartbeats 5000000
/-! FD9: kinds of values, isinstance, own ==, lists that a slot owns. -/
namespace FD
open PySem L2
variable [Tabl]

def tyB : D → Option String
  | .non => some "NoneType"
  | .bl _ => some "bool"
  | .int _ => some "int"
  | .str _ => some "str"
  | .tup _ => some "tuple"
  | .ktup _ => some "tuple"
  | .lst _ => some "list"
  | .dic _ => some "dict"
  | .dit _ => some "dict"
  | _ => none
section
variable {c : Ct} {da : Option Addr} {O : List Addr} {H : Hp} {v : V}
theorem ty_of {d : D} {T : String} (h : RepP c da O H v d) (e : tyB d = some T) : TyX c.K H v (.type T) := by
  cases d with
  | non => cases e; rw [h.non]; exact .base .non
  | bl b => cases e; rw [h.bl]; exact .base (.bl b)
  | int i => cases e; rw [h.int]; exact .base (.int i)
  | str x => cases e; rw [h.str]; exact .base (.str x)
  | tup ds =>
    cases e
    obtain ⟨a, xs, rfl, s, _, _⟩ := h.tup
    rcases s with (s | ⟨o, s⟩) | ⟨o, its, n, hk, hc, _⟩
    · exact .base (.tup s)
    · exact .fTuple s
    · exact .kTuple hk hc
  | ktup ds =>
    cases e
    obtain ⟨a, xs, rfl, s, _, _⟩ := h.ktup
    rcases s with (s | ⟨o, s⟩) | ⟨o, its, n, hk, hc, _⟩
    · exact .base (.tup s)
    · exact .fTuple s
    · exact .kTuple hk hc
  | lst ds =>
    cases e
    obtain ⟨a, xs, rfl, s, _⟩ := h.lst
    exact .base (.lst s)
  | dic ps =>
    cases e
    obtain ⟨a, kvs, rfl, s, _⟩ := h.dic
    exact .base (.dK s)
  | dit ps =>
    cases e
    obtain ⟨a, kvs, rfl, s, _⟩ := h.dit
    exact .base (.dT s)
  | _ => cases e
structure InsTy (K : PySem.W.Frag) (mg : Str → Option Value) (cn : Str) (C : Addr) : Prop where
  m : mg cn = some (.ref C)
  cl : Cls K C
  ok : PySem.W.findIn K (.ref C) "__class__" = some (some (.builtin "object.__class__")) ∧ PySem.W.specialIn K (.builtin "object.__class__") "__get__" = some (some (.builtin "getset_descriptor.__get__")) ∧
    PySem.W.takesIn K (.builtin "object.__class__") = some true ∧ PySem.W.mroIn K C (.type "object") = some true
theorem ty_ins {cn : Str} {gs : List (Str × D)} {C : Addr} (h : RepP c da O H v (.ins cn gs)) (i : InsTy c.K c.mg cn C) : TyX c.K H v (.ref C) := by
  obtain ⟨a, C', dx, fs, rfl, e, m, _⟩ := h.ins
  rw [i.m] at m
  cases m
  exact .base (.ins e i.cl i.ok.1 i.ok.2.1 i.ok.2.2.1 i.ok.2.2.2)
end
/-- what is known of a value's type: bt of the built-in ones, ic of instances -/
structure KndD (K : PySem.W.Frag) (mg : Str → Option Value) (ok : Value → Bool → Prop) (bt : String → Bool) (ic : List (Str × Bool)) : Prop where
  bi : ∀ T ∈ ["NoneType", "bool", "int", "str", "tuple", "list", "dict"], ok (.type T) (bt T)
  ins : ∀ p ∈ ic, ∃ C, InsTy K mg p.1 C ∧ ok (.ref C) p.2
def isiD (bt : String → Bool) (ic : List (Str × Bool)) : D → Option Bool
  | .ins cn _ => ic.lookup cn
  | d => (tyB d).map bt
theorem lookup_mem {α : Type} {l : List (Str × α)} {k : Str} {x : α} (h : l.lookup k = some x) : (k, x) ∈ l := PySem.mem_of_lookup h
theorem knd_of {c : Ct} {da : Option Addr} {O : List Addr} {H : Hp} {v : V} {d : D} {ok : Value → Bool → Prop} {bt : String → Bool} {ic : List (Str × Bool)} {b : Bool} (k : KndD c.K c.mg ok bt ic) (h : RepP c da O H v d) (e : isiD bt ic d = some b) : ∃ t, TyX c.K H v t ∧ ok t b := by
  have gen : ∀ d, RepP c da O H v d → (tyB d).map bt = some b → ∃ t, TyX c.K H v t ∧ ok t b := fun d h e => by
    cases q : tyB d with
    | none =>
      rw [q] at e
      cases e
    | some T =>
      rw [q] at e
      cases e
      refine ⟨_, ty_of h q, k.bi T ?_⟩
      cases d <;> first | cases q; done | (cases q; simp)
  cases d with
  | ins cn gs =>
    obtain ⟨C, i, o⟩ := k.ins _ (lookup_mem e)
    exact ⟨_, ty_ins h i, o⟩
  | _ => exact gen _ h e

section
variable {X : Cx} {a b e o c1 : Expr} {es cs : List Expr} {pos p p2 apos cpos : Pos} {x m f cn : Str} {k j n i : Nat} {dd : List D} {fa fb fo fe fe' : M RV} {fas : M (List RV)}
def tKs (us : List V) : TA := fun _ H Q => Q us H
theorem pks_nil : PA X [] (tKs []) := pa_nil
theorem pks_cons {u : V} {us : List V} (h : PE X e (tC u)) (hr : PA X es (tKs us)) (hs : starEach (e :: es) X.env = (false, eval e X.env) :: starEach es X.env := by rfl) : PA X (e :: es) (tKs (u :: us)) := pa_cons h hr hs
theorem bt_isi : bootBuiltins "isinstance" = some (.builtin "isinstance") := by decide +kernel
def isiM (bt : String → Bool) (ic : List (Str × Bool)) (fa : M RV) : M RV := op1M (fun d => (isiD bt ic d).map fun b => .sh (.bl b)) fa
theorem fe_isi {u : V} {uv : Value} {bt : String → Bool} {ic : List (Str × Bool)} (hg : Gl X "isinstance") (hm : X.mg "isinstance" = none) (hc : PE X c1 (tC u)) (hu : ClsV u uv) (hk : KndD X.K X.mg (fun t b => PySem.W.kitOne X.K t uv = some b) bt ic) (ha : FE X a fa)
    (hs : starEach [a, c1] X.env = (false, eval a X.env) :: starEach [c1] X.env := by rfl) (hs2 : starEach [c1] X.env = (false, eval c1 X.env) :: starEach [] X.env := by rfl) (hpl : (backTo pos (starEach [c1] X.env)).any (·.1) = false := by rfl) :
    FE X (.Call (.Name "isinstance" p) [a, c1] [] pos) (isiM bt ic fa) := fun F =>
  PE.wk (pe_callB call_isi hg hm bt_isi (pa_cons (ha F) (pks_cons hc pks_nil hs2) hs) (by decide) (by decide) hs hpl) fun σ H Q q => by
    obtain ⟨O, ρ, w, r, ρ', w', S, e, k⟩ := q
    refine tE_then S e fun v O1 ρ1 w1 H1 r1 S1 e1 R1 h1 => ?_
    obtain ⟨d1, r', p1, eg, ez⟩ := lift1_some h1
    cases ez
    cases q : isiD bt ic d1 with
    | none =>
      rw [q] at eg
      cases eg
    | some b =>
      rw [q] at eg
      cases eg
      obtain ⟨t, ty, ok⟩ := knd_of (c := ct X) hk (R1.hold.peek S1 p1) q
      exact ⟨v, u, t, uv, b, rfl, hu, ty, ok, k _ O1 H1 S1 e1 (.bl b)⟩
/-! ### an own __eq__ -/
structure EqsD (P : Program) (w : World) (K : PySem.W.Frag) (mg : Str → Option Value) (base : Heap) (k : Nat) (cn : Str) (ic : List (Str × Bool)) (den : List D → W → Option (RV × W)) : Prop where
  ex : ∃ (C f : Addr) (fd : FuncData) (ps : List Str), mg cn = some (.ref C) ∧ PySem.W.findIn K (.ref C) "__ne__" = some (some (.builtin "object.__ne__")) ∧ PySem.W.subIn K (.ref C) (.type "object") = some true ∧ PySem.W.findIn K (.ref C) "__eq__" = some (some (.ref f)) ∧ PySem.W.isFn K (.ref f) = true ∧
    FnOk P w K mg base CX0 k f fd ps (spD ⟨K, mg⟩ 2 den) ∧ Binds K fd ps [] ∧ KndD K mg (fun t b => PySem.W.notFirst K C t = b ∧ b = true) (fun _ => true) ic
end
end FD

end sec_FD9
section sec_FD10
set_option maxRecDepth 100000
set_option maxHeartbeats 5000000
/-! FD10: operators, subscripts, slices, built-in functions by plain data. -/
namespace FD
open PySem L2
variable [Tabl]

/-! ### comparisons of data -/
mutual
def toPy : D → Option PyData
  | .non => some .none
  | .bl b => some (.bool b)
  | .int i => some (.int i)
  | .str x => some (.str x)
  | .tup ds => (toPys ds).map .tuple
  | .ktup ds => (toPys ds).map .tuple
  | .lst ds => (toPys ds).map .list
  | _ => none
def toPys : List D → Option (List PyData)
  | [] => some []
  | d :: r => match toPy d with
    | some p => (toPys r).map (p :: ·)
    | none => none
end
section
variable {c : Ct} {da : Option Addr} {G H : Hp}
mutual
theorem Rep.dp (x : Ex G H) : ∀ {v : V} {d : D} {p : PyData}, Rep c da G v d → toPy d = some p → Dp c.K H v p
  | _, _, _, .non, e => by cases e; exact .non
  | _, _, _, .bl b, e => by cases e; exact .bl b
  | _, _, _, .int i, e => by cases e; exact .int i
  | _, _, _, .str y, e => by cases e; exact .str y
  | _, _, _, .ty n, e => by cases e
  | _, _, _, .draw h, e => by cases e
  | _, .tup ds, _, .tup s r, e => by
    simp only [toPy] at e
    cases q : toPys ds with
    | none =>
      rw [q] at e
      cases e
    | some ps =>
      rw [q] at e
      cases e
      exact .tup (.inl (.inl (x _ _ s))) (RepAll.dp x r q)
  | _, .ktup ds, _, .ktup s r, e => by
    simp only [toPy] at e
    cases q : toPys ds with
    | none =>
      rw [q] at e
      cases e
    | some ps =>
      rw [q] at e
      cases e
      exact .tup (x.st s) (RepAll.dp x r q)
  | _, .lst ds, _, .lst s r, e => by
    simp only [toPy] at e
    cases q : toPys ds with
    | none =>
      rw [q] at e
      cases e
    | some ps =>
      rw [q] at e
      cases e
      exact .lst (.inl (.inl (x _ _ s))) (RepAll.dp x r q)
  | _, _, _, .scr s, e => by cases e
  | _, _, _, .dK s r, e => by cases e
  | _, _, _, .dT s r, e => by cases e
  | _, _, _, .fdT s r, e => by cases e
  | _, _, _, .exc s s2 m r, e => by cases e
  | _, _, _, .exo s m, e => by cases e
  | _, _, _, .ins s m r, e => by cases e
  | _, .lam i ds, _, .lam t s s2 k r, e => by
    simp only [toPy] at e
    cases e
theorem RepAll.dp (x : Ex G H) : ∀ {vs : List V} {ds : List D} {ps : List PyData}, RepAll c da G vs ds → toPys ds = some ps → DpAll c.K H vs ps
  | _, _, _, .nil, e => by
    simp only [toPys] at e
    cases e
    exact .nil
  | _, d :: ds, _, .cons h r, e => by
    simp only [toPys] at e
    cases q : toPy d with
    | none =>
      rw [q] at e
      cases e
    | some p =>
      rw [q] at e
      dsimp only at e
      cases q2 : toPys ds with
      | none =>
        rw [q2] at e
        cases e
      | some ps =>
        rw [q2] at e
        cases e
        exact .cons (Rep.dp x h q) (RepAll.dp x r q2)
end
theorem RepP.dp {O : List Addr} {v : V} {d : D} {p : PyData} (h : RepP c da O H v d) (e : toPy d = some p) : Dp c.K H v p := by
  rcases h with h | ⟨a, o, rfl, ha, ob⟩
  · exact h.dp vis_ex e
  · rcases ob with ⟨xs, ds, rfl, rfl, r⟩ | ⟨_, _, _, rfl, _⟩ | ⟨_, _, _, rfl, _⟩ | ⟨_, _, _, _, _, _, rfl, _⟩
    · simp only [toPy] at e
      cases q : toPys ds with
      | none =>
        rw [q] at e
        cases e
      | some ps =>
        rw [q] at e
        cases e
        exact .lst (.inl (.inl ha)) (r.dp vis_ex q)
    · cases e
    · cases e
    · cases e
end
def cmpD (d1 d2 : D) : Option Bool := match toPy d1 with
  | some p => (match toPy d2 with
    | some q => if SeqAt.shaped p = true ∧ SeqAt.shaped q = true then some (PyData.eqv p q) else none
    | none => none)
  | none => none
def eqD (d1 d2 : D) : Option RV := (cmpD d1 d2).map fun b => .sh (.bl b)
def neD (d1 d2 : D) : Option RV := (cmpD d1 d2).map fun b => .sh (.bl (!b))
theorem cmpD_some {d1 d2 : D} {b : Bool} (h : cmpD d1 d2 = some b) : ∃ p q, toPy d1 = some p ∧ toPy d2 = some q ∧ SeqAt.shaped p = true ∧ SeqAt.shaped q = true ∧ b = PyData.eqv p q := by
  unfold cmpD at h
  split at h
  · rename_i p e1
    split at h
    · rename_i q e2
      split at h
      · rename_i hs
        cases h
        exact ⟨p, q, e1, e2, hs.1, hs.2, rfl⟩
      · cases h
    · cases h
  · cases h
section
variable {X : Cx}
theorem opD_eq {k : Nat} (hr : Room k X.A) : OpR X (compareOp .Eq) (rP2 (ct X) eqD) := by
  intro pins s σ H x y v u Q I rx ry h
  obtain ⟨da, O, d1, d2, r, hO, h1, h2, eg, q⟩ := h
  cases e : cmpD d1 d2 with
  | none =>
    unfold eqD at eg
    rw [e] at eg
    cases eg
  | some b =>
    unfold eqD at eg
    rw [e] at eg
    cases eg
    obtain ⟨p, p', e1, e2, s1, s2, rfl⟩ := cmpD_some e
    exact op_eqD hr.units pins s σ H x y v u Q I rx ry ⟨p, p', h1.dp e1, h2.dp e2, s1, s2, q _ _ (Ex.refl _) (.bl _)⟩
theorem opD_ne {k : Nat} (hr : Room k X.A) : OpR X (compareOp .NotEq) (rP2 (ct X) neD) := by
  intro pins s σ H x y v u Q I rx ry h
  obtain ⟨da, O, d1, d2, r, hO, h1, h2, eg, q⟩ := h
  cases e : cmpD d1 d2 with
  | none =>
    unfold neD at eg
    rw [e] at eg
    cases eg
  | some b =>
    unfold neD at eg
    rw [e] at eg
    cases eg
    obtain ⟨p, p', e1, e2, s1, s2, rfl⟩ := cmpD_some e
    exact op_neD hr.units pins s σ H x y v u Q I rx ry ⟨p, p', h1.dp e1, h2.dp e2, s1, s2, q _ _ (Ex.refl _) (.bl _)⟩
/-- ints alone -/
def intD (f : Int → Int → Option RV) : D → D → Option RV
  | .int i, .int j => f i j
  | _, _ => none
theorem opD_int {opf : Value → Value → Sem Value} {C : Int → Int → Prop} {g : Int → Int → V} {f : Int → Int → Option RV} (h1 : OpR X opf (rI C g)) (hf : ∀ i j r, f i j = some r → C i j ∧ ∃ d, r = .sh d ∧ ∀ c da G, Rep c da G (g i j) d) : OpR X opf (rP2 (ct X) (intD f)) := by
  intro pins s σ H x y v u Q I rx ry h
  obtain ⟨da, O, d1, d2, r, hO, p1, p2, eg, q⟩ := h
  unfold intD at eg
  split at eg
  · obtain ⟨hc, d, rfl, rd⟩ := hf _ _ _ eg
    exact h1 pins s σ H x y v u Q I rx ry ⟨_, _, p1.int, p2.int, hc, q _ _ (Ex.refl _) (rd _ _ _)⟩
  · cases eg
theorem rI_of0 {opf : Value → Value → Sem Value} {g : Int → Int → V} (h : OpR X opf (rI0 g)) : OpR X opf (rI (fun _ _ => True) g) := by
  intro pins s σ H x y v u Q I rx ry ⟨i, j, h1, h2, _, q⟩
  exact h pins s σ H x y v u Q I rx ry ⟨i, j, h1, h2, q⟩
def i0 (f : Int → Int → D) (i j : Int) : Option RV := some (.sh (f i j))
theorem opD_ge : OpR X (compareOp .GtE) (rP2 (ct X) (intD (i0 fun i j => .bl (decide (j ≤ i))))) := opD_int (rI_of0 op_ge) fun i j r e => by cases e; exact ⟨trivial, _, rfl, fun _ _ _ => .bl _⟩
theorem opD_sub : OpR X (binaryOp .Sub) (rP2 (ct X) (intD (i0 fun i j => .int (i - j)))) := opD_int (rI_of0 op_sub) fun i j r e => by cases e; exact ⟨trivial, _, rfl, fun _ _ _ => .int _⟩
def modI (i j : Int) : Option RV := if 0 < j then some (.sh (.int (i % j))) else none
theorem opD_mod : OpR X (binaryOp .Mod) (rP2 (ct X) (intD modI)) := opD_int op_mod fun i j r e => by
  unfold modI at e
  split at e
  · rename_i h
    cases e
    exact ⟨h, _, rfl, fun _ _ _ => .int _⟩
  · cases e
def fdivI (i j : Int) : Option RV := if 0 < j ∧ j.natAbs.log2 < 9000 then some (.sh (.int (i / j))) else none
theorem opD_fdiv : OpR X (binaryOp .FloorDiv) (rP2 (ct X) (intD fdivI)) := opD_int op_fdivW fun i j r e => by
  unfold fdivI at e
  split at e
  · rename_i h
    cases e
    exact ⟨h, _, rfl, fun _ _ _ => .int _⟩
  · cases e
/-! ### + -/
def addD : D → D → Option RV
  | .int i, .int j => some (.sh (.int (i + j)))
  | .str x, .str y => if x.length + y.length ≤ 1000000 then some (.sh (.str (x ++ y))) else none
  | .lst xs, .lst ys => if xs.length + ys.length ≤ 1000000 then some (.fr (.lst (xs ++ ys))) else none
  | .tup xs, .tup ys => if xs.length + ys.length ≤ 1000000 then some (.sh (.tup (xs ++ ys))) else none
  | _, _ => none
theorem repN_lst {c : Ct} {da : Option Addr} {O : List Addr} {H : Hp} {p : Addr} {xs : List V} {ds : List D} (np : H p = none) (r : RepAll c da (vis O H) xs ds) : RepN c da O H (upd H p (.lst xs)) (.fr (.lst ds)) (.ref p) := by
  refine ⟨p, _, rfl, np, upd_same, .inl ⟨xs, ds, rfl, rfl, r.mono fun b o h => ?_⟩⟩
  obtain ⟨n, h⟩ := vis_some h
  rw [vis_out fun z => ?_]
  · exact Ex.new np b o h
  · rcases List.mem_cons.mp z with z | z
    · exact ne_of_none h np z
    · exact n z
/-- a place of which nothing is known may be hidden: a new tuple is laid where H is free -/
theorem repN_tup {c : Ct} {da : Option Addr} {O : List Addr} {H : Hp} {p : Addr} {xs : List V} {ds : List D} (np : H p = none) (hO : ∀ a ∈ O, ∃ o, H a = some o ∧ NT o) (r : RepAll c da (vis O H) xs ds) : RepN c da O H (upd H p (.tup xs)) (.sh (.tup ds)) (.ref p) := by
  have n : p ∉ O := fun z => by
    obtain ⟨o, e, _⟩ := hO p z
    rw [np] at e
    cases e
  refine .tup ?_ (r.mono (vis_mono (Ex.new np)))
  rw [vis_out n]
  exact upd_same
theorem opD_add : OpR X (binaryOp .Add) (rP2 (ct X) addD) := by
  intro pins s σ H x y v u Q I rx ry h
  obtain ⟨da, O, d1, d2, r, hO, p1, p2, eg, q⟩ := h
  unfold addD at eg
  split at eg
  · cases eg
    exact op_add pins s σ H x y v u Q I rx ry ⟨_, _, p1.int, p2.int, q _ _ (Ex.refl _) (.int _)⟩
  · split at eg
    · rename_i hz
      cases eg
      exact op_add_str pins s σ H x y v u Q I rx ry ⟨_, _, p1.str, p2.str, small_fits hz, q _ _ (Ex.refl _) (.str _)⟩
    · cases eg
  · split at eg
    · rename_i hz
      cases eg
      obtain ⟨a, xs, rfl, ea, ra⟩ := p1.lst
      obtain ⟨b, ys, rfl, eb, rb⟩ := p2.lst
      exact op_cat pins s σ H _ _ v u Q I rx ry ⟨a, b, xs, ys, rfl, rfl, ea, eb, small_fits (by rw [ra.length, rb.length]; exact hz), fun p np => q _ _ (Ex.new np) (repN_lst np (ra.append rb))⟩
    · cases eg
  · split at eg
    · rename_i hz
      cases eg
      obtain ⟨a, xs, rfl, ea, ra, Ra⟩ := p1.tup
      obtain ⟨b, ys, rfl, eb, rb, Rb⟩ := p2.tup
      refine op_catA pins s σ H _ _ v u Q I rx ry ⟨a, b, xs, ys, rfl, rfl, ea, eb, small_fits (by rw [ra.length, rb.length]; exact hz), fun e => ?_, fun _ e => ?_, fun _ _ p np => q _ _ (Ex.new np) (repN_tup np hO (ra.append rb))⟩
      · subst e
        cases ra
        exact q _ _ (Ex.refl _) Rb
      · subst e
        cases rb
        rw [List.append_nil] at q
        exact q _ _ (Ex.refl _) Ra
    · cases eg
  · cases eg

/-! ### * -/
def mulD : D → D → Option RV
  | .int i, .int j => if i.natAbs.log2 + j.natAbs.log2 < 1000000 then some (.sh (.int (i * j))) else none
  | .str x, .int n => if n = 0 then some (.sh (.str Str.empty)) else if n = 1 then some (.sh (.str x)) else none
  | _, _ => none
theorem opD_mul : OpR X (binaryOp .Mult) (rP2 (ct X) mulD) := by
  intro pins s σ H x y v u Q I rx ry h
  obtain ⟨da, O, d1, d2, r, hO, p1, p2, eg, q⟩ := h
  unfold mulD at eg
  split at eg
  · split at eg
    · rename_i hc
      cases eg
      exact op_mulW pins s σ H x y v u Q I rx ry ⟨_, _, p1.int, p2.int, hc, q _ _ (Ex.refl _) (.int _)⟩
    · cases eg
  · rename_i x0 n
    have ex := p1.str
    have ey := p2.int
    subst ex
    subst ey
    obtain ⟨t, rfl⟩ := rx
    obtain ⟨t2, rfl⟩ := ry
    split at eg
    · rename_i hn
      cases eg
      subst hn
      exact PySem.P.mul_str_none (by decide) (by decide) ⟨.str Str.empty, H, I.tok _, ⟨_, rfl⟩, q _ _ (Ex.refl _) (.str _)⟩
    · split at eg
      · rename_i hn
        cases eg
        subst hn
        refine PySem.P.mul_str (by decide) (fun _ h => by simp at h) (fun _ h => by simp at h) ?_
        rw [if_neg (by decide), if_pos (by simp)]
        exact ⟨.str x0, H, I, ⟨_, rfl⟩, q _ _ (Ex.refl _) (.str _)⟩
      · cases eg
  · cases eg

/-! ### subscripts -/
def ixD : D → D → Option RV
  | .lst xs, .int i => (atI xs i).map .sh
  | .tup xs, .int i => (atI xs i).map .sh
  | .ktup xs, .int i => (atI xs i).map .sh
  | .str z, .int i => if z.length ≤ 1000000 then (atI z.cps.toList i).map fun c => .sh (.str ⟨#[c]⟩) else none
  | _, _ => none
theorem RepAll.atI {c : Ct} {da : Option Addr} {G : Hp} {vs : List V} {ds : List D} {i : Int} {d : D} (r : RepAll c da G vs ds) (h : L2.atI ds i = some d) : ∃ v, L2.atI vs i = some v ∧ Rep c da G v d := by
  unfold L2.atI at h ⊢
  rw [r.length]
  cases e : ixN ds.length i with
  | none =>
    rw [e] at h
    cases h
  | some j =>
    rw [e] at h
    exact r.get h
theorem ixD_ok : IxR X (rP2 (ct X) ixD) := by
  intro value slice pins s σ H x y v u Q I rx ry h hs
  obtain ⟨da, O, d1, d2, r, hO, p1, p2, eg, q⟩ := h
  unfold ixD at eg
  split at eg
  · rename_i xs i
    cases e : L2.atI xs i with
    | none =>
      rw [e] at eg
      cases eg
    | some d =>
      rw [e] at eg
      cases eg
      obtain ⟨a, ys, rfl, ea, ra⟩ := p1.lst
      obtain ⟨z, hz, rz⟩ := ra.atI e
      exact ix_list value slice pins s σ H _ _ v u Q I rx ry ⟨a, ys, i, z, rfl, p2.int, .inl (.inl ea), hz, q _ _ (Ex.refl _) rz⟩ hs
  · rename_i xs i
    cases e : L2.atI xs i with
    | none =>
      rw [e] at eg
      cases eg
    | some d =>
      rw [e] at eg
      cases eg
      obtain ⟨a, ys, rfl, ea, ra, _⟩ := p1.tup
      obtain ⟨z, hz, rz⟩ := ra.atI e
      exact ix_tup value slice pins s σ H _ _ v u Q I rx ry ⟨a, ys, i, z, rfl, p2.int, ea, hz, q _ _ (Ex.refl _) rz⟩ hs
  · rename_i xs i
    cases e : L2.atI xs i with
    | none =>
      rw [e] at eg
      cases eg
    | some d =>
      rw [e] at eg
      cases eg
      obtain ⟨a, ys, rfl, ea, ra, _⟩ := p1.ktup
      obtain ⟨z, hz, rz⟩ := ra.atI e
      exact ix_tup value slice pins s σ H _ _ v u Q I rx ry ⟨a, ys, i, z, rfl, p2.int, ea, hz, q _ _ (Ex.refl _) rz⟩ hs
  · rename_i z i
    split at eg
    · rename_i hz
      cases e : L2.atI z.cps.toList i with
      | none =>
        rw [e] at eg
        cases eg
      | some d =>
        rw [e] at eg
        cases eg
        exact ix_str value slice pins s σ H _ _ v u Q I rx ry ⟨z, i, d, p1.str, p2.int, small_fits hz, e, q _ _ (Ex.refl _) (.str _)⟩ hs
    · cases eg
  · cases eg
end
end FD

end sec_FD10
section sec_ZP
set_option maxRecDepth 100000
set_option maxHeartbeats 5000000
/-! ZP: zip of two and of three, each a list, a tuple or a text. -/
namespace ZP
open PySem PySem.Spec PyProof.Rows L2

/-- what zip draws from -/
inductive Src where
  | lst (a : Addr) | tup (a : Addr) | txt (x : Str)
def Src.has (K : PySem.W.Frag) (H : Hp) : Src → List V → Prop
  | .lst a, xs => SqL K H a xs
  | .tup a, xs => SqT K H a xs
  | .txt x, xs => xs = x.cps.toList.map fun c => V.str ⟨#[c]⟩
def Src.at_ : Src → Addr → Nat → Heap → Prop
  | .lst a, it, i, h => h.IsListIter it a i
  | .tup a, it, i, h => h.IsTupleIter it a i
  | .txt x, it, i, h => ∃ t, h.IsStrIter it (strIterType x) x t i
def Src.far : Src → Addr → Prop
  | .lst a, b => a ≠ b
  | .tup a, b => a ≠ b
  | .txt _, _ => True
theorem Src.inj {X : Cx} {pins : List (Addr × Obj)} {σ : L2.St} {H : Hp} {s : Shared} (I : Inv X pins σ H s) : ∀ {r : Src} {xs ys : List V}, r.has X.K H xs → r.has X.K H ys → xs = ys
  | .lst _, _, _, h, k => I.list_inj h k
  | .tup _, _, _, h, k => I.tuple_inj h k
  | .txt _, _, _, h, k => h.trans k.symm
theorem noCell {h : Heap} {it : Addr} {o : Obj} {vs : Array Value} (e : h.get? it = some o) (d : o.data = .fields vs) : ∃ o, h.get? it = some o ∧ ∀ v, o.data ≠ .cell v := ⟨o, e, by simp [d]⟩
theorem Src.live {r : Src} {it : Addr} {i : Nat} {h : Heap} (q : r.at_ it i h) : ∃ o, h.get? it = some o ∧ ∀ v, o.data ≠ .cell v := by
  cases r with
  | lst a =>
    obtain ⟨_, e, _, d⟩ := q
    exact noCell e d
  | tup a =>
    obtain ⟨_, e, _, d⟩ := q
    exact noCell e d
  | txt x =>
    obtain ⟨_, _, e, _, d⟩ := q
    exact noCell e d
theorem Src.keep {r : Src} {it : Addr} {i : Nat} {h h' : Heap} (q : r.at_ it i h) (k : ∀ o, h.get? it = some o → h'.get? it = some o) : r.at_ it i h' := by
  cases r with
  | lst a => exact Heap.IsListIter.at q k
  | tup a => exact Heap.IsTupleIter.at q k
  | txt x =>
    obtain ⟨t, o, e, r⟩ := q
    exact ⟨t, o, k o e, r⟩
theorem vals_at : ∀ {xs : List V} {us : List Value}, Vals xs us → ∀ {j : Nat} {u : Value}, us[j]? = some u → ∃ x, xs[j]? = some x ∧ RelV x u
  | _, _, .nil, _, _, h => by simp at h
  | _, _, .cons r t, 0, _, h => ⟨_, rfl, by cases h; exact r⟩
  | _, _, .cons r t, j + 1, _, h => by
    obtain ⟨x, e, k⟩ := vals_at t (j := j) (by simpa using h)
    exact ⟨x, by simpa using e, k⟩
/-- such an iterator draws the items -/
theorem Src.draws {X : Cx} {pins : List (Addr × Obj)} {σ : L2.St} {H : Hp} {s : Shared} (hc : X.calm = true) (I : Inv X pins σ H s) {r : Src} {xs : List V} {it : Addr} {i : Nat} (hx : r.has X.K H xs) (q : r.at_ it i s.heap) (far : r.far it) :
    ∃ fp P St, Draws X.prog X.w X.A.in1 it fp xs.length P St ∧ St i s.heap ∧ it ∈ fp ∧ (∀ b, r.far b → b ≠ it → b ∉ fp) ∧ (∀ j v, P j v → ∃ x, xs[j]? = some x ∧ RelV x v) ∧ ∀ j h, St j h → r.at_ it j h := by
  cases r with
  | lst a =>
    obtain ⟨its, rv, p, _⟩ := I.list hx
    have hl := rv.length
    refine ⟨[it, a], fun i v => its.toArray[i]? = some v, fun i h => h.IsListIter it a i ∧ h.IsList a its.toArray, by rw [hl]; exact Draws.list (prog := X.prog) (w := X.w) (A := X.A.in1) (I.ok.hd hc) it a far its.toArray, (show _ ∧ _ from ⟨q, p.isList⟩), by simp, fun b fb nb => ?_, fun j v hv => ?_, fun j h st => st.1⟩
    · simp only [List.mem_cons, List.not_mem_nil, or_false]
      exact fun z => z.elim nb fun y => fb y.symm
    · exact vals_at rv (by simpa using hv)
  | tup a =>
    obtain ⟨its, rv, p, _⟩ := I.tuple hx
    have hl := rv.length
    refine ⟨[it, a], fun i v => its.toArray[i]? = some v, fun i h => h.IsTupleIter it a i ∧ h.IsTuple a its.toArray, by rw [hl]; exact Draws.tuple (prog := X.prog) (w := X.w) (A := X.A.in1) (I.ok.hd hc) it a far its.toArray, (show _ ∧ _ from ⟨q, p⟩), by simp, fun b fb nb => ?_, fun j v hv => ?_, fun j h st => st.1⟩
    · simp only [List.mem_cons, List.not_mem_nil, or_false]
      exact fun z => z.elim nb fun y => fb y.symm
    · exact vals_at rv (by simpa using hv)
  | txt x =>
    obtain ⟨t, q⟩ := q
    have hx : xs = x.cps.toList.map fun c => V.str ⟨#[c]⟩ := hx
    have hl : xs.length = x.cps.size := by rw [hx]; simp
    refine ⟨[it], _, _, by rw [hl]; exact Draws.text (prog := X.prog) (w := X.w) (A := X.A.in1) (I.ok.hd hc) it x t, q, by simp, fun b _ nb => by simpa using nb, fun j v hv => ?_, fun j h st => ⟨t, st⟩⟩
    obtain ⟨c, u, hcu, rfl⟩ := hv
    refine ⟨.str ⟨#[c]⟩, ?_, ⟨u, rfl⟩⟩
    rw [hx, List.getElem?_map]
    have : x.cps.toList[j]? = some c := by simpa using hcu
    rw [this]
    rfl
/-- its cells lie apart -/
structure Ap2 (z TI TO i1 i2 : Addr) (r1 r2 : Src) : Prop where
  a1 : TI ≠ z
  a2 : TO ≠ z
  a3 : TI ≠ TO
  a4 : TI ≠ i1
  a5 : TI ≠ i2
  a6 : z ≠ i1
  a7 : z ≠ i2
  a8 : TO ≠ i1
  a9 : TO ≠ i2
  b1 : i1 ≠ i2
  f1 : r1.far z ∧ r1.far TO ∧ r1.far i1 ∧ r1.far i2
  f2 : r2.far z ∧ r2.far TO ∧ r2.far i1 ∧ r2.far i2
/-! ### zip of three -/
structure Ap3 (z TI TO i1 i2 i3 : Addr) (r1 r2 r3 : Src) : Prop where
  a1 : TI ≠ z
  a2 : TO ≠ z
  a3 : TI ≠ TO
  t1 : TI ≠ i1
  t2 : TI ≠ i2
  t3 : TI ≠ i3
  z1 : z ≠ i1
  z2 : z ≠ i2
  z3 : z ≠ i3
  o1 : TO ≠ i1
  o2 : TO ≠ i2
  o3 : TO ≠ i3
  b12 : i1 ≠ i2
  b13 : i1 ≠ i3
  b23 : i2 ≠ i3
  f1 : r1.far z ∧ r1.far TO ∧ r1.far i1 ∧ r1.far i2 ∧ r1.far i3
  f2 : r2.far z ∧ r2.far TO ∧ r2.far i1 ∧ r2.far i2 ∧ r2.far i3
  f3 : r3.far z ∧ r3.far TO ∧ r3.far i1 ∧ r3.far i2 ∧ r3.far i3
/-! ### how they begin -/
def Src.of : Src → V → Prop
  | .lst a, v => v = .ref a
  | .tup a, v => v = .ref a
  | .txt x, v => v = .str x
theorem Src.begins {X : Cx} {pins : List (Addr × Obj)} {σ : L2.St} {H : Hp} {s : Shared} (I : Inv X pins σ H s) {r : Src} {xs : List V} {v : V} {u : Value} (hv : r.of v) (hx : r.has X.K H xs) (ru : RelV v u) :
    ∃ (o : Obj) (T : Heap → Prop), Begins u o T ∧ T s.heap ∧ (∀ b, s.heap.objs.size ≤ b → r.far b) ∧ ∀ it h, h.get? it = some o → r.at_ it 0 h := by
  cases r with
  | lst a =>
    have hv : v = .ref a := hv
    subst hv
    cases ru
    obtain ⟨its, rv, p, _⟩ := I.list hx
    exact ⟨_, _, begins_list a its.toArray, p.isList, fun b hb z => Nat.lt_irrefl _ (Nat.lt_of_lt_of_le (z ▸ p.lt) hb), fun it h e => ⟨_, e, rfl, rfl⟩⟩
  | tup a =>
    have hv : v = .ref a := hv
    subst hv
    cases ru
    obtain ⟨its, rv, p, _⟩ := I.tuple hx
    obtain ⟨o, ho, _⟩ := id p
    have := Heap.lt_size ho
    exact ⟨_, _, begins_tuple a its.toArray, p, fun b hb z => Nat.lt_irrefl _ (Nat.lt_of_lt_of_le (z ▸ this) hb), fun it h e => ⟨_, e, rfl, rfl⟩⟩
  | txt x =>
    have hv : v = .str x := hv
    subst hv
    obtain ⟨t, rfl⟩ := ru
    exact ⟨_, _, begins_text x t, trivial, fun b hb => trivial, fun it h e => ⟨t, _, e, rfl, rfl⟩⟩
end ZP

end sec_ZP
section sec_EN
set_option maxRecDepth 100000
set_option maxHeartbeats 5000000
/-! EN: enumerate of any source of ZP. -/
namespace EN
open PySem PySem.Spec PyProof.Rows L2
open ZP (Src)
theorem mem_two {a b c : Addr} (h : c ∈ [a, b]) : c = a ∨ c = b := by simpa using h
/-- the counter as enumerate makes it, its iterator at n -/
abbrev numO (n : Addr) : Obj := { cls := .type "enumerate", data := .fields #[.none, .bool false, .ref n, rawInt 0, .none, .none] }
def newSpec (o : Obj) (T : Heap → Prop) : PySem.Spec := fun _ R s => T s.heap ∧ R (.ok (.ret (.ref (s.heap.push o).objs.size))) { s with heap := (s.heap.push o).push (numO s.heap.objs.size) }
theorem new_meets {v : Value} {o : Obj} {T : Heap → Prop} (B : Begins v o T) : Meets (Builtin.«enumerate.__new__» ⟨[.type "enumerate", v], []⟩) (newSpec o T) := .of_wp fun P w A R s hs => by
  rcases s with ⟨h, g, d, k, os⟩
  rcases hs with ⟨ready, out⟩
  have sub := sub_enumerate
  have it : ∀ {B' : Around} {E : Value → Shared → Prop} {Q : Value → Shared → Prop}, Q (.ref h.objs.size) ⟨h.push o, g, d, k, os⟩ → wpAny (model P w) B' (pyIter v) Q E ⟨h, g, d, k, os⟩ := B.iter P w _ _ ⟨h, g, d, k, os⟩ _ ready
  wp_walk using it
  apply wpAny_stack_any
  intro st
  apply wpAny_pure
  split
  next c _ _ _ _ _ =>
    cases hc : (c == Value.type "enumerate") <;> (wp_walk using it) <;> exact ⟨_, rfl, out⟩
  next => (wp_walk using it) <;> exact ⟨_, rfl, out⟩
/-- what stands there behind enumerate(v) -/
structure Made (h0 h : Heap) (o : Obj) : Prop where
  num : IsEnum h (h0.objs.size + 1) h0.objs.size 0 .none
  it : h.get? h0.objs.size = some o
  old : ∀ b u, h0.get? b = some u → h.get? b = some u
theorem make {P : Program} {w : World} {A : Around} {E : Value → Shared → Prop} {s : Shared} {v : Value} {o : Obj} {T : Heap → Prop} {Q : Value → Shared → Prop} (B : Begins v o T) (ready : T s.heap)
    (go : ∀ h, Made s.heap h o → Q (.ref (s.heap.objs.size + 1)) { s with heap := h }) : wpAny (model P w) A (call (.type "enumerate") [v]) Q E s := by
  apply callType_new PySem.F.called_enumerate (by decide) (PySem.F.typeCall_enumerate_1 _) (PySem.F.newCall_enumerate_1 _) (fun u => PySem.F.args_object_init_2 u _) PySem.F.entry_enumerate_new (new_meets B)
  refine ⟨ready, ?_⟩
  have sz := Heap.size_push s.heap o
  have top := Heap.get?_push_size (s.heap.push o) (o := numO s.heap.objs.size) rfl
  simp only [sz] at top ⊢
  exact ⟨⟨_, top, rfl⟩, go _ ⟨top, Heap.get?_push_of_some _ (Heap.get?_push_size _ B.free), fun b u e => Heap.get?_push_of_some _ (Heap.get?_push_of_some _ e)⟩⟩
/-- number and item at each turn -/
def Ien (K : PySem.W.Frag) (r : Src) : It where
  go := fun i H => ∃ (xs : List V) (x : V), r.has K H xs ∧ xs[i]? = some x
  yld := fun i H v H2 => ∃ T x, v = .ref T ∧ H T = none ∧ H2 = upd H T (.tup [.int (i : Nat), x]) ∧ ∀ xs, r.has K H xs → xs[i]? = some x
  stop := fun i H => ∃ xs : List V, r.has K H xs ∧ xs.length = i
theorem turn {P : Program} {w : World} {K : PySem.W.Frag} {elts : List Expr} {kk : Nat} {tpos : Pos} {r : Src} {n it : Addr} (ne : n ≠ it) (fn : r.far n) (fi : r.far it) :
    Turn P w K (.Tuple elts kk tpos) (Ien K r) [n, it] n (fun i h => (∃ last, IsEnum h n it ((i : Nat) : Int) last) ∧ r.at_ it i h) where
  mem := List.mem_cons_self
  obj := by
    rintro i h ⟨⟨last, hn⟩, hi⟩ b hb
    rcases mem_two hb with rfl | rfl
    · exact ⟨_, hn, by intro v q; cases q⟩
    · exact Src.live hi
  keep := by
    rintro i h h2 ⟨⟨last, hn⟩, hi⟩ k
    exact ⟨⟨last, k n (by simp) _ hn⟩, Src.keep hi (k it (by simp))⟩
  item := by
    rintro X rfl rfl rfl calm i pins s σ H E I hf ⟨⟨last, hn⟩, hi⟩ ⟨xs, x, hx, at_⟩
    obtain ⟨fp, Pd, St, D, st, mem, off, val, back⟩ := Src.draws calm I hx hi fi
    have ln : n < s.heap.objs.size := Heap.lt_size hn
    apply wpAny_pyNext_enum_itemD D hn st (List.getElem?_eq_some_iff.mp at_).1 ne (off n fn ne)
    intro u h1 k pu out st1 pair _ kept
    obtain ⟨x2, at2, ru⟩ := val i u pu
    obtain rfl : x = x2 := Option.some.inj (at_.symm.trans at2)
    refine ⟨_, rfl, wpAny_letOwnedTupleGo_enum (s := { s with heap := h1, toks := k + 1 }) out fun h2 hn2 sb => ?_⟩
    have fresh := I.hok.fresh (Nat.le_refl s.heap.objs.size)
    have made : ObjOk X.prog X.w (upd H s.heap.objs.size (.tup [.int (i : Nat), x])) h2 s.heap.objs.size (.tup [.int (i : Nat), x]) :=
      ⟨(by decide : 2 ≤ sizeLine), [.int i k, u], .cons ⟨k, rfl⟩ (.cons ru .nil), ⟨_, (sb.2 _ (Nat.ne_of_gt ln)).trans pair, rfl, _, rfl⟩⟩
    have I2 := I.turnedNew (ch := [n, it]) (t' := k + 1) (fun b o nb e => by
      have nb : b ≠ n ∧ b ≠ it := by simpa using nb
      exact (sb.2 b nb.1).trans (kept b o nb.1 nb.2 e)) hf (Nat.le_refl _) made
    refine ⟨.ref s.heap.objs.size, _, I2, rfl, ⟨_, x, rfl, fresh, rfl, ?_⟩, ⟨⟨u, hn2⟩, Src.keep (back _ _ st1) fun o e => (sb.2 it (Ne.symm ne)).trans e⟩, ?_⟩
    · intro ys hy
      rw [Src.inj I hy hx]
      exact at_
    · intro b hb
      have lb : b < s.heap.objs.size := by
        rcases mem_two hb with rfl | rfl
        · exact ln
        · obtain ⟨_, e, _⟩ := Src.live hi
          exact Heap.lt_size e
      exact (upd_ne (Nat.ne_of_lt lb)).trans (hf b hb).1
  done := by
    rintro X rfl rfl rfl calm i pins s σ H E I hf ⟨⟨last, hn⟩, hi⟩ ⟨xs, hx, rfl⟩
    obtain ⟨fp, Pd, St, D, st, _⟩ := Src.draws calm I hx hi fi
    apply wpAny_pyNext_enum_endD D hn st
    intro h1 ext
    exact ⟨rfl, I.turnedL (t' := s.toks) (ch := [n, it]) (fun b o nb e => ext b o (by intro z; exact nb (by simp [z])) e) hf⟩
  self := by
    rintro A i s Q E ⟨⟨_, hn⟩, _⟩ go
    exact wpAny_pyIter_enum hn go
def iEn (K : PySem.W.Frag) (ta : TE) : TI := fun σ H R => ta σ H fun v H1 => ∃ r xs, Src.of r v ∧ r.has K H1 xs ∧ R (Ien K r) H1
theorem pi_en {X : Cx} {e : Expr} {ta : TE} {p pos tpos : Pos} {elts : List Expr} {kk : Nat} (glob : Gl X "enumerate") (own : X.mg "enumerate" = none) (ha : PE X e ta) (ns : starEach [e] X.env = (false, eval e X.env) :: starEach [] X.env := by rfl) :
    PI X (.Tuple elts kk tpos) (.Call (.Name "enumerate" p) [e] [] pos) (iEn X.K ta) where
  run := by
    intro pins s σ H R I pre
    refine Call_ (ld_blt I glob own boot_enumerate ?_)
    refine PyProof.Rows.callWith_type1 (PyProof.Rows.args_cons (thn (ha.run pins s σ H _ I pre) ?_) ns) ns rfl
    rintro u s1 ⟨v, H1, I1, rv, r, xs, isr, has, post⟩
    refine PyProof.Rows.args_nil ?_
    obtain ⟨o, T, B, ready, far, start⟩ := Src.begins I1 isr has rv
    apply make B ready
    intro h m
    refine wpAny_pyIter_enum m.num ⟨s1.heap.objs.size + 1, [s1.heap.objs.size + 1, s1.heap.objs.size], _, _, H1, rfl, I1.kept (t' := s1.toks) m.old, turn (r := r) (Nat.succ_ne_self _) (far _ (Nat.le_succ _)) (far _ (Nat.le_refl _)), ⟨⟨.none, m.num⟩, start _ _ m.it⟩, ?_, post⟩
    intro b hb
    have : s1.heap.objs.size ≤ b := by
      rcases mem_two hb with rfl | rfl
      · exact Nat.le_succ _
      · exact Nat.le_refl _
    exact I1.fpOk this (I1.hok.fresh this)
end EN

end sec_EN
section sec_FD11
set_option maxRecDepth 100000
set_option maxHeartbeats 5000000
/-! FD11: built-in functions, slices, own ==, lists that a slot owns, enumerate, displays. -/
namespace FD
open PySem L2
variable [Tabl]
section
variable {X : Cx}
/-! ### built-in functions -/
def lenD : List D → Option RV
  | [.lst xs] => some (.sh (.int xs.length))
  | [.tup xs] => some (.sh (.int xs.length))
  | [.ktup xs] => some (.sh (.int xs.length))
  | [.str z] => if z.length ≤ 1000000 then some (.sh (.int z.length)) else none
  | [.scr ns] => some (.sh (.int ns.length))
  | _ => none
theorem AllP.one {c : Ct} {da : Option Addr} {O : List Addr} {H : Hp} {vs : List V} {d : D} (h : AllP c da O H vs [d]) : ∃ v, vs = [v] ∧ RepP c da O H v d := by
  cases h with
  | cons a b =>
    cases b
    exact ⟨_, rfl, a⟩
theorem AllP.two {c : Ct} {da : Option Addr} {O : List Addr} {H : Hp} {vs : List V} {d e : D} (h : AllP c da O H vs [d, e]) : ∃ v u, vs = [v, u] ∧ RepP c da O H v d ∧ RepP c da O H u e := by
  cases h with
  | cons a b =>
    obtain ⟨u, rfl, q⟩ := b.one
    exact ⟨_, _, rfl, a, q⟩
theorem bD_len : CallR X (.builtin "len") (rPure (ct X) lenD) := by
  intro pins s σ H xs us Q I r h
  obtain ⟨da, O, ds, rv, hO, p, eg, q⟩ := h
  unfold lenD at eg
  split at eg
  · cases eg
    obtain ⟨v, rfl, P⟩ := p.one
    obtain ⟨a, ys, rfl, ea, ra⟩ := P.lst
    have z := ra.length
    exact call_len_seq pins s σ H _ us Q I r ⟨a, ys, rfl, .inl (.inl (.inl ea)), q _ _ (Ex.refl _) (by rw [z]; exact .int _)⟩
  · cases eg
    obtain ⟨v, rfl, P⟩ := p.one
    obtain ⟨a, ys, rfl, ea, ra, _⟩ := P.tup
    have z := ra.length
    exact call_len_seq pins s σ H _ us Q I r ⟨a, ys, rfl, .inr ea, q _ _ (Ex.refl _) (by rw [z]; exact .int _)⟩
  · cases eg
    obtain ⟨v, rfl, P⟩ := p.one
    obtain ⟨a, ys, rfl, ea, ra, _⟩ := P.ktup
    have z := ra.length
    exact call_len_seq pins s σ H _ us Q I r ⟨a, ys, rfl, .inr ea, q _ _ (Ex.refl _) (by rw [z]; exact .int _)⟩
  · split at eg
    · rename_i hz
      cases eg
      obtain ⟨v, rfl, P⟩ := p.one
      obtain rfl := P.str
      exact call_len_str pins s σ H _ us Q I r ⟨_, rfl, small_fits hz, q _ _ (Ex.refl _) (.int _)⟩
    · cases eg
  · cases eg
    obtain ⟨v, rfl, P⟩ := p.one
    obtain ⟨a, rfl, ea⟩ := P.scr
    exact call_len_seq pins s σ H _ us Q I r ⟨a, _, rfl, .inl ea, q _ _ (Ex.refl _) (by rw [List.length_map]; exact .int _)⟩
  · cases eg
def minD : List D → Option RV
  | [.int i, .int j] => some (.sh (.int (if j < i then j else i)))
  | _ => none
theorem bD_min (hc : X.calm = true) : CallR X (.builtin "min") (rPure (ct X) minD) := by
  intro pins s σ H xs us Q I r h
  obtain ⟨da, O, ds, rv, hO, p, eg, q⟩ := h
  unfold minD at eg
  split at eg
  · cases eg
    obtain ⟨v, u, rfl, p1, p2⟩ := p.two
    obtain rfl := p1.int
    obtain rfl := p2.int
    exact call_min2 hc pins s σ H _ us Q I r ⟨_, _, rfl, q _ _ (Ex.refl _) (.int _)⟩
  · cases eg
def intFD : List D → Option RV
  | [.int i] => some (.sh (.int i))
  | [.bl b] => some (.sh (.int (if b then 1 else 0)))
  | _ => none
theorem bD_int : CallR X (.type "int") (rPure (ct X) intFD) := by
  intro pins s σ H xs us Q I r h
  obtain ⟨da, O, ds, rv, hO, p, eg, q⟩ := h
  unfold intFD at eg
  split at eg
  · cases eg
    obtain ⟨v, rfl, P⟩ := p.one
    obtain rfl := P.int
    exact call_int1 pins s σ H _ us Q I r (.inl ⟨_, rfl, q _ _ (Ex.refl _) (.int _)⟩)
  · cases eg
    obtain ⟨v, rfl, P⟩ := p.one
    obtain rfl := P.bl
    exact call_int1 pins s σ H _ us Q I r (.inr ⟨_, rfl, q _ _ (Ex.refl _) (.int _)⟩)
  · cases eg
/-! ### repr -/
/-! ### ''.join -/
end
end FD

end sec_FD11
section sec_FD12
set_option maxRecDepth 100000
set_option maxHeartbeats 5000000
/-! FD12: slices, comparisons, lists that a slot owns, enumerate, displays, sorted by a lambda. -/
namespace FD
open PySem L2
variable [Tabl]

/-! ### slices -/
def cutL {α : Type} (xs : List α) (lo hi : Option Int) : List α := (xs.drop (HT.sIx xs.length 0 lo)).take (HT.sIx xs.length xs.length hi - HT.sIx xs.length 0 lo)
def slD : D → Option Int → Option Int → Option RV
  | .lst xs, lo, hi => some (.fr (.lst (cutL xs lo hi)))
  | .tup xs, lo, hi => some (.sh (.tup (cutL xs lo hi)))
  | .ktup xs, lo, hi => some (.sh (.ktup (cutL xs lo hi)))
  | .str z, lo, hi => if z.length ≤ 1000000 then some (.sh (.str (cutS z lo hi))) else none
  | _, _, _ => none
section
variable {X : Cx} {a b e o : Expr} {es : List Expr} {pos p p2 apos cpos : Pos} {x m f cn : Str} {k j n i : Nat} {dd : List D} {fa fb fo fe fe' : M RV}
def tO (c : Ct) (F : Fm) (f : M (Option Int)) : TO := fun σ H Q => ∃ O ρ w b ρ' w', SR c F O ρ w σ H ∧ f ρ w = some (b, ρ', w') ∧ ∀ O' H', SR c F O' ρ' w' σ H' → Ex (vis O H) (vis O' H') → Q b H'
def FO (X : Cx) (e : Option Expr) (f : M (Option Int)) : Prop := ∀ F, PO X e (tO (ct X) F f)
theorem PO.wk {e : Option Expr} {t t' : TO} (h : PO X e t) (k : ∀ σ H Q, t' σ H Q → t σ H Q) : PO X e t' := ⟨fun pins s σ H Q I q => h.run pins s σ H Q I (k σ H Q q)⟩
def asI : RV → Option Int
  | .sh (.int i) => some i
  | _ => none
def partM (f : M RV) : M (Option Int) := bindM f fun r => fun ρ w => match asI r with
  | some i => some (some i, ρ, w)
  | none => none
def slM (fa : M RV) (fl fh : M (Option Int)) : M RV := bindM fa fun r1 => bindM fl fun lo => bindM fh fun hi => lift1 (fun d => slD d lo hi) r1
/-! ### comparisons, as values and as tests -/
structure FC (X : Cx) (op : CmpOp) (a b : Expr) (pos : Pos) (f : M RV) : Prop where
  fe : FE X (.Compare a [op] [b] pos) f
  ft : FT X (.Compare a [op] [b] pos) (boolM f)
theorem fc_data {op : CmpOp} {g : D → D → Option RV} (ho : OpR X (compareOp op) (rP2 (ct X) g)) (ha : FE X a fa) (hb : FE X b fb) (hm : behindInMarks op b = false) : FC X op a b pos (op2M g fa fb) := ⟨fe_cmp ho ha hb hm, ft_cmp ho ha hb hm⟩
def eqOM (cn : Str) (ic : List (Str × Bool)) (den : List D → W → Option (RV × W)) (ne : Bool) (fa fb : M RV) : M RV := bindM fa fun r1 => bindM fb fun r2 => bindM (escAll [r1, r2]) fun ds => match ds with
  | [.ins c' gs, d2] => if c' = cn ∧ isiD (fun _ => true) ic d2 = some true then bindM (runD den [.ins c' gs, d2]) fun r => match r with
    | .sh (.bl b) => pureM (.sh (.bl (if ne then !b else b)))
    | _ => failM
    else failM
  | _ => failM
end

/-! ### lists that a slot owns -/
section
variable {c : Ct} {F : Fm} {O : List Addr} {ρ : Env} {w : W} {σ : L2.St} {H : Hp}
end
def ownL (ρ : Env) (i : Nat) : Option (List D) := match ρ[i]? with
  | some (some (.own (.lst ds))) => some ds
  | _ => none
theorem ownL_some {ρ : Env} {i : Nat} {ds : List D} (h : ownL ρ i = some ds) : ρ[i]? = some (some (.own (.lst ds))) := by
  unfold ownL at h
  split at h
  · rename_i e
    cases h
    exact e
  · cases h
section
variable {X : Cx} {e : Expr} {pos p apos cpos : Pos} {x : Str} {i : Nat} {fe : M RV}
theorem own_obj {c : Ct} {F : Fm} {O : List Addr} {ρ : Env} {w : W} {σ : L2.St} {H : Hp} {ds : List D} (S : SR c F O ρ w σ H) (h : ownL ρ i = some ds) : ∃ a xs, σ[i]? = some (some (V.ref a)) ∧ H a = some (.lst xs) ∧ RepAll c F.dr.da (vis O H) xs ds := by
  obtain ⟨a, o, h1, _, _, h4, h5⟩ := S.own i _ (ownL_some h)
  rcases h5 with ⟨xs, es, rfl, e2, r⟩ | ⟨_, _, _, e2, _⟩ | ⟨_, _, _, e2, _⟩ | ⟨_, _, _, _, _, _, e2, _⟩
  · cases e2
    exact ⟨a, xs, h1, h4, r⟩
  · cases e2
  · cases e2
  · cases e2
end
end FD

end sec_FD12
section sec_FD13
set_option maxRecDepth 100000
set_option maxHeartbeats 5000000
/-! FD13: enumerate, sorted by a lambda, displays of dicts. -/
namespace FD
open PySem L2
variable [Tabl]
def numD : Nat → List D → List D
  | _, [] => []
  | n, d :: r => .tup [.int n, d] :: numD (n + 1) r
theorem numD_get : ∀ (ds : List D) (n i : Nat), (numD n ds)[i]? = (ds[i]?).map fun d => .tup [.int ((n + i : Nat) : Int), d]
  | [], n, i => by simp [numD]
  | d :: r, n, 0 => by simp [numD]
  | d :: r, n, i + 1 => by
    rw [numD, List.getElem?_cons_succ, List.getElem?_cons_succ, numD_get r (n + 1) i]
    have e : n + 1 + i = n + (i + 1) := by omega
    rw [e]
theorem numD_length : ∀ (ds : List D) (n : Nat), (numD n ds).length = ds.length
  | [], n => rfl
  | d :: r, n => by simp [numD, numD_length r]
section
variable {c : Ct} {dr : Dr} {da : Option Addr} {G : Hp}
theorem wk_pair {ds : List D} {xs : List V} {i : Nat} {O : List Addr} {H : Hp} {T : Addr} {x : V} {d : D} (r : RepAll c da G xs ds) (hd : (numD 0 ds)[i]? = some d) (e : Ex G (vis O H)) (tr : ∀ a ∈ O, ∃ o, H a = some o ∧ NT o) (nT : H T = none) (hx : xs[i]? = some x) :
    Ex H (upd H T (.tup [.int (i : Nat), x])) ∧ Rep c da (vis O (upd H T (.tup [.int (i : Nat), x]))) (.ref T) d := by
  rw [numD_get] at hd
  cases q : ds[i]? with
  | none =>
    rw [q] at hd
    cases hd
  | some d0 =>
    rw [q] at hd
    have hd' : D.tup [.int ((0 + i : Nat) : Int), d0] = d := Option.some.inj hd
    subst hd'
    obtain ⟨v, hv, rv⟩ := r.get q
    rw [hx] at hv
    cases hv
    have nO : T ∉ O := fun z => by
      obtain ⟨o, h, _⟩ := tr T z
      rw [nT] at h
      cases h
    have xn : Ex H (upd H T (.tup [.int (i : Nat), x])) := Ex.new nT
    refine ⟨xn, .tup (xs := [.int (i : Nat), x]) ?_ (.cons ?_ (.cons (rv.mono (e.trans (vis_mono xn))) .nil))⟩
    · rw [vis_out nO]
      exact upd_same
    · rw [Nat.zero_add]
      exact .int _
theorem wk_enumL {a : Addr} {xs : List V} {ds : List D} (s0 : G a = some (.lst xs)) (r : RepAll c dr.da G xs ds) : Wk c dr (Ite c.K a) G (numD 0 ds) := fun i O H e tr _ => by
  have s' : SqL c.K H a xs := (e.trans vis_ex).sl (SqL.of s0)
  refine ⟨fun d h => ?_, fun h => ⟨xs, s', by rw [numD_length] at h; rw [r.length]; exact Nat.le_of_eq h⟩⟩
  have hl : i < ds.length := by rw [← numD_length ds 0]; exact (List.getElem?_eq_some_iff.mp h).1
  obtain ⟨v, h1, _⟩ := r.get (i := i) (d := ds[i]) (by simp [hl])
  refine ⟨⟨xs, v, s', h1⟩, fun x H' y => ?_⟩
  obtain ⟨T, x', rfl, nT, rfl, hx⟩ := y
  exact wk_pair r h e tr nT (hx xs s')
theorem wk_enumT {a : Addr} {xs : List V} {ds : List D} (s : SqT c.K G a xs) (r : RepAll c dr.da G xs ds) : Wk c dr (EN.Ien c.K (.tup a)) G (numD 0 ds) := fun i O H e tr _ => by
  have now : (ZP.Src.tup a).has c.K H xs := (e.trans vis_ex).st s
  refine ⟨fun d h => ?_, fun h => ⟨xs, now, by rw [r.length, ← h, numD_length]⟩⟩
  have hl : i < ds.length := by rw [← numD_length ds 0]; exact (List.getElem?_eq_some_iff.mp h).1
  obtain ⟨v, h1, _⟩ := r.get (i := i) (d := ds[i]) (by simp [hl])
  refine ⟨⟨xs, v, now, h1⟩, fun x H' y => ?_⟩
  obtain ⟨T, x', rfl, nT, rfl, hx⟩ := y
  exact wk_pair r h e tr nT (hx xs now)
end
def seqD : D → Option (List D)
  | .lst ds => some ds
  | .tup ds => some ds
  | .ktup ds => some ds
  | _ => none
def enumM (fe : M RV) : M (List D) := bindM fe fun r => bindM (escR r) fun d => fun ρ w => match seqD d with
  | some ds => some (numD 0 ds, ρ, w)
  | none => none
section
variable {X : Cx} {e : Expr} {elts : List Expr} {pos p tpos lpos kpos p1 p2 p3 p4 p5 : Pos} {kk i1 k : Nat} {fe : M RV}
theorem fi_enum (hg : Gl X "enumerate") (hm : X.mg "enumerate" = none) (he : FE X e fe) (hs : starEach [e] X.env = (false, eval e X.env) :: starEach [] X.env := by rfl) (hs0 : starEach [e] X.env = [(false, eval e X.env)] := by rfl) : FI X (.Tuple elts kk tpos) (.Call (.Name "enumerate" p) [e] [] pos) (enumM fe) := fun F => ⟨fun pins s σ H R I q => by
  obtain ⟨O, ρ, w, ds, ρ', w', S, e, k⟩ := q
  obtain ⟨r, ρ1, w1, e1, e2⟩ := bindM_some e
  obtain ⟨d, ρ2, w2, e3, e4⟩ := bindM_some e2
  have go : ∀ (Q : VK), (∀ v O2 H2, SR (ct X) F O2 ρ2 w2 σ H2 → Ex (vis O H) (vis O2 H2) → Rep (ct X) F.dr.da (vis O2 H2) v d → Q v H2) → tE (ct X) F fe σ H Q := fun Q hq => ⟨O, ρ, w, r, ρ1, w1, S, e1, fun v O1 H1 S1 x1 R1 => by
    obtain ⟨rfl, O2, S2, k2, r2⟩ := escR_ok S1 R1.hold e3
    exact hq v O2 H1 S2 (x1.trans k2) r2⟩
  cases d with
  | lst es =>
    cases e4
    refine (pi_enum hg hm (pa_cons (he F) pa_nil hs) hs0).run pins s σ H R I (go _ fun v O2 H2 S2 x2 r2 => ?_)
    cases r2 with
    | lst s r => exact ⟨_, _, rfl, vis_ex.sl (SqL.of s), k _ O2 H2 S2 x2 (wk_enumL s r)⟩
  | tup es =>
    cases e4
    refine (EN.pi_en hg hm (he F) hs).run pins s σ H R I (go _ fun v O2 H2 S2 x2 r2 => ?_)
    cases r2 with
    | @tup a _ _ s r => exact ⟨.tup a, _, rfl, .inl (.inl (vis_ex _ _ s)), k _ O2 H2 S2 x2 (wk_enumT (.inl (.inl s)) r)⟩
  | ktup es =>
    cases e4
    refine (EN.pi_en hg hm (he F) hs).run pins s σ H R I (go _ fun v O2 H2 S2 x2 r2 => ?_)
    cases r2 with
    | @ktup a _ _ s r => exact ⟨.tup a, _, rfl, vis_ex.st s, k _ O2 H2 S2 x2 (wk_enumT s r)⟩
  | _ => cases e4⟩

/-! ### sorted(e, key=lambda y: (len(y), y)) -/
/-! ### displays of dicts -/
theorem fe_dic0 : FE X (.Dict [] [] pos) (pureM (.fr (.dic []))) := fun F => PE.wk pe_dnewK fun σ H Q h => by
  obtain ⟨O, ρ, w, r, ρ', w', S, e, k⟩ := h
  cases e
  intro p np
  have x2 : Ex H (upd H p (.dK [])) := Ex.new np
  obtain ⟨S3, n3, k3⟩ := S.hide np x2 upd_same
  exact k _ O _ (S.grow x2) (vis_mono x2) ⟨p, _, rfl, n3, S3, upd_same, .inr (.inl ⟨[], [], rfl, rfl, .nil⟩), k3⟩
end
end FD

end sec_FD13
section sec_FD14
set_option maxRecDepth 100000
set_option maxHeartbeats 5000000
/-! FD14: the draws. -/
namespace FD
open PySem L2
variable [Tabl]
section
variable {c : Ct} {F : Fm} {O : List Addr} {ρ : Env} {w w' : W} {σ : L2.St} {H : Hp} {v : V}
def drK (a b : Addr) (w : W) : List (Key × V) := [(.inr "wide", .ref a), (.inr "cells", .ref b), (.inr "rest", .int w.rest), (.inr "turn", .int w.turn)]
theorem draw_of {G : Hp} (S : SR c F O ρ w σ H) (R : Rep c F.dr.da G v .draw) : ∃ t, F.dr.at_ = some t ∧ v = .ref t.1 ∧ H t.1 = some (.dK (drK t.2.1 t.2.2 w)) ∧
    H t.2.1 = some (.lst (w.wide.map V.int)) ∧ H t.2.2 = some (.lst (w.cells.map V.int)) ∧ t.2.1 ≠ t.2.2 ∧ w.cells = F.dr.cl := by
  cases R with
  | draw h =>
    unfold Dr.da at h
    cases e : F.dr.at_ with
    | none =>
      rw [e] at h
      cases h
    | some t =>
      rw [e] at h
      cases h
      exact ⟨t, rfl, rfl, S.draw.1 t e⟩
end
def drI (f : W → Int) (fo : M RV) : M RV := bindM fo fun r => fun ρ w => match r with
  | .sh .draw => some (.sh (.int (f w)), ρ, w)
  | _ => none
def drT (f : W → Bool) (fo : M RV) : M Bool := bindM fo fun r => fun ρ w => match r with
  | .sh .draw => some (f w, ρ, w)
  | _ => none
def drPop (fo : M RV) : M RV := bindM fo fun r => fun ρ w => match r with
  | .sh .draw => (match w.wide with
    | x :: xs => if xs.length < 1000000 then some (.sh (.int x), ρ, { w with wide := xs }) else none
    | [] => none)
  | _ => none
def drC (fo : M RV) : M (List D) := bindM fo fun r => fun ρ w => match r with
  | .sh .draw => some (w.cells.map D.int, ρ, w)
  | _ => none
def drSet (f : W → Int → W) (fv fo : M RV) : M Fl := bindM fv fun r1 => bindM fo fun r => fun ρ w => match r1, r with
  | .sh (.int i), .sh .draw => some (.nx, ρ, f w i)
  | _, _ => none
section
variable {X : Cx} {o e : Expr} {pos p pos' apos cpos : Pos} {j1 j2 k : Nat} {fo fe : M RV} {tg : Expr}
theorem fe_drI {key : Str} {f : W → Int} (hr : Room k X.A) (ho : FE X o fo) (hv : ∀ a b w, valV (drK a b w) (.inr key) = some (.int (f w)))
    (hs : NoSl (.Constant (.str key) j1 p) := by intro _ _; rfl) : FE X (.Subscript o (.Constant (.str key) j1 p) pos) (drI f fo) := fun F => PE.wk (pe_dget (hu_of hr) (ho F) pe_str hs) fun σ H Q q => by
  obtain ⟨O, ρ, w, r, ρ', w', S, e, kq⟩ := q
  refine tE_then S e fun x O1 ρ1 w1 H1 r1 S1 e1 R1 h1 => ?_
  split at h1
  · cases h1
    obtain ⟨t, _, rfl, q1, _⟩ := draw_of S1 R1
    refine ⟨t.1, .int (f w'), rfl, ?_, kq _ O1 H1 S1 e1 (.int _)⟩
    rw [← hv t.2.1 t.2.2 w']
    exact DGet.k (k := .inr key) q1
  · cases h1
theorem pe_drL {key : Str} {F : Fm} (hr : Room k X.A) (ho : FE X o fo) (hs : NoSl (.Constant (.str key) j1 p) := by intro _ _; rfl) : PE X (.Subscript o (.Constant (.str key) j1 p) pos) (tDGet (tE (ct X) F fo) (tC (.str key))) := pe_dget (hu_of hr) (ho F) pe_str hs
/-- d['wide'] != [] -/
theorem ft_drWide (hr : Room k X.A) (ho : FE X o fo) (hs : NoSl (.Constant (.str "wide") j1 p) := by intro _ _; rfl) : FT X (.Compare (.Subscript o (.Constant (.str "wide") j1 p) pos') [.NotEq] [.List [] apos] pos) (drT (fun w => !w.wide.isEmpty) fo) := fun F =>
  PT.wk (pt_cmpR (op_neD hr.units) (pe_drL hr ho hs) (pe_lst pa_nil) rfl) fun σ H Q q => by
  obtain ⟨O, ρ, w, r, ρ', w', S, e, kq⟩ := q
  refine tE_then S e fun x O1 ρ1 w1 H1 r1 S1 e1 R1 h1 => ?_
  split at h1
  · cases h1
    obtain ⟨t, _, rfl, q1, q2, _⟩ := draw_of S1 R1
    refine ⟨t.1, .ref t.2.1, rfl, DGet.k (k := .inr "wide") q1, small_fits (Nat.zero_le _), fun p np => ?_⟩
    have x2 : Ex H1 (upd H1 p (.lst [])) := Ex.new np
    have dp : ∀ ns : List Int, DpAll X.K (upd H1 p (.lst [])) (ns.map V.int) (ns.map PyData.int) := fun ns => by
      induction ns with
      | nil => exact .nil
      | cons n ns ih => exact .cons (.int n) ih
    have sh : ∀ ns : List Int, SeqAt.shaped (.list (ns.map PyData.int)) = true := fun ns => by
      have h1 : ∀ ns : List Int, PyData.canLayAll0 (ns.map PyData.int) = true := fun ns => by
        induction ns with
        | nil => rfl
        | cons n ns ih => simpa [PyData.canLayAll0, PyData.canLay0] using ih
      have h2 : ∀ ns : List Int, PyData.depthAll (ns.map PyData.int) = 0 := fun ns => by
        induction ns with
        | nil => rfl
        | cons n ns ih => simp [PyData.depthAll, PyData.depth, ih]
      unfold SeqAt.shaped
      simp [PyData.canLay0, h1, PyData.depth, h2]
    refine ⟨.list (w'.wide.map PyData.int), .list [], .lst (.inl (.inl (x2 _ _ q2))) (dp _), .lst (.inl (.inl upd_same)) .nil, sh _, sh [], _, rfl, ?_⟩
    have eb : (!PyData.eqv (.list (w'.wide.map PyData.int)) (.list [])) = !w'.wide.isEmpty := by
      cases w'.wide with
      | nil => rfl
      | cons n ns => rfl
    rw [eb]
    exact kq O1 _ (S1.grow x2) (e1.trans (vis_mono x2))
  · cases h1
/-- d['wide'].pop(0) -/
theorem fe_drPop (hr : Room k X.A) (ho : FE X o fo) (hs : NoSl (.Constant (.str "wide") j1 p) := by intro _ _; rfl)
    (hbase : attributeBase (.Subscript o (.Constant (.str "wide") j1 p) pos) "pop" X.env (eval (.Subscript o (.Constant (.str "wide") j1 p) pos) X.env) = eval (.Subscript o (.Constant (.str "wide") j1 p) pos) X.env := by rfl)
    (hfew : ((backTo cpos (starEach [.Constant (.int 0) j2 pos'] X.env)).all (fun x => !x.1) && (backToKw cpos (keywordEach [] X.env)).all (fun x => x.1.isSome) && decide ([Expr.Constant (.int 0) j2 pos'].length + ([] : List Keyword).length + (if ([] : List Keyword).isEmpty then 0 else 1) < 30)) = true := by rfl)
    (hline : (apos.endLine == cpos.line) = true := by rfl) (hst : starEach [.Constant (.int 0) j2 pos'] X.env = (false, eval (.Constant (.int 0) j2 pos') X.env) :: starEach [] X.env := by rfl) :
    FE X (.Call (.Attribute (.Subscript o (.Constant (.str "wide") j1 p) pos) "pop" apos) [.Constant (.int 0) j2 pos'] [] cpos) (drPop fo) := fun F =>
  PE.wk (pe_bm PySem.F.plainAttrs_list PySem.F.slot_list_pop PySem.F.type_list_pop mt_popAt (pe_drL hr ho hs) (pa_cons pe_int pa_nil hst) hbase hfew hline hst) fun σ H Q q => by
  obtain ⟨O, ρ, w, r, ρ', w', S, e, kq⟩ := q
  refine tE_then S e fun x O1 ρ1 w1 H1 r1 S1 e1 R1 h1 => ?_
  split at h1
  · split at h1
    · rename_i n ns ew
      split at h1
      · rename_i hl
        cases h1
        obtain ⟨t, et, rfl, q1, q2, q3, q4⟩ := draw_of S1 R1
        rw [ew] at q2
        refine ⟨t.1, .ref t.2.1, rfl, DGet.k (k := .inr "wide") q1, .inl ⟨rfl, _, .inl (.inl q2)⟩, t.2.1, (n :: ns).map V.int, 0, 0, .int n, rfl, rfl, q2, by decide, by decide, seqIndex_of (by decide) (by simp <;> omega), rfl, ?_⟩
        have n1 : t.1 ≠ t.2.1 := fun z => by
          rw [z, q2] at q1
          cases q1
        have kp : Kp F.dr H1 (upd H1 t.2.1 (.lst (((n :: ns).map V.int).eraseIdx 0))) := fun b u hb nb => by
          have z : b ≠ t.2.1 := fun z => nb (by rw [z]; exact Dr.mem2 et)
          rw [upd_ne z]
          exact hb
        have dw : DrawAt F.dr { w1 with wide := ns } (upd H1 t.2.1 (.lst (((n :: ns).map V.int).eraseIdx 0))) := by
          refine ⟨fun t' e' => ?_, tabs_upd S1.draw.2 (fun p hp z => ?_) q2 (fun _ z => nomatch z)⟩
          · rw [et] at e'
            cases e'
            exact ⟨by rw [upd_ne n1]; exact q1, by rw [upd_same]; rfl, by rw [upd_ne (Ne.symm q4.1)]; exact q3, q4⟩
          · obtain ⟨ps, hp', _⟩ := S1.draw.2 p hp
            rw [z, q2] at hp'
            cases hp'
        exact kq _ O1 _ (S1.kept kp dw) (e1.trans (vis_kp S1.drO kp)) (.int _)
      · cases h1
    · cases h1
  · cases h1
/-- for .. in d['cells'] -/
theorem fi_drC (hr : Room k X.A) (ho : FE X o fo) (hs : NoSl (.Constant (.str "cells") j1 p) := by intro _ _; rfl) : FI X tg (.Subscript o (.Constant (.str "cells") j1 p) pos) (drC fo) := fun F => ⟨fun pins s σ H R I q => by
  obtain ⟨O, ρ, w, ds, ρ', w', S, e, kq⟩ := q
  refine (pi_list (pe_drL (F := F) hr ho hs)).run pins s σ H R I ?_
  refine tE_then S e fun x O1 ρ1 w1 H1 r1 S1 e1 R1 h1 => ?_
  split at h1
  · cases h1
    obtain ⟨t, et, rfl, q1, q2, q3, q4, q5⟩ := draw_of S1 R1
    refine ⟨t.1, .ref t.2.2, rfl, DGet.k (k := .inr "cells") q1, t.2.2, rfl, ⟨_, .inl (.inl q3)⟩, kq _ O1 H1 S1 e1 fun i O H e tr hc => ?_⟩
    have s' : SqL X.K H t.2.2 (w'.cells.map V.int) := .inl (.inl (by rw [q5]; exact hc t et))
    refine ⟨fun d h => ?_, fun h => ⟨_, s', by simpa using Nat.le_of_eq h⟩⟩
    rw [List.getElem?_map] at h
    cases q : w'.cells[i]? with
    | none =>
      rw [q] at h
      cases h
    | some n =>
      rw [q] at h
      cases h
      have hv : (w'.cells.map V.int)[i]? = some (.int n) := by rw [List.getElem?_map, q]; rfl
      refine ⟨⟨_, .int n, s', hv⟩, fun x H' y => ?_⟩
      obtain ⟨rfl, y⟩ := y
      have z := y _ s'
      rw [hv] at z
      cases z
      exact ⟨Ex.refl _, .int _⟩
  · cases h1⟩
/-- d[key] = e -/
theorem fs_drSet {key : Str} {f : W → Int → W} (hr : Room k X.A) (ho : FE X o fo) (he : FE X e fe)
    (hf : ∀ a b w i, putK (drK a b w) (.inr key) (V.int i) = drK a b (f w i) ∧ (f w i).wide = w.wide ∧ (f w i).cells = w.cells)
    (hs : swapsWith e (some (.Subscript o (.Constant (.str key) j1 p) pos')) pos.line X.env = pure false := by rfl) : FS X (.Assign [.Subscript o (.Constant (.str key) j1 p) pos'] e pos) (drSet f fe fo) := fun F =>
  PS.wk (ps_dput (hu_of hr) (ho F) pe_str (he F) hs) fun E σ H q => by
  obtain ⟨O, ρ, w, fl, ρ', w', S, e, kq⟩ := q
  refine tE_then S e fun v O1 ρ1 w1 H1 r1 S1 e1 R1 h1 => ?_
  refine tE_then S1 h1 fun x O2 ρ2 w2 H2 r2 S2 e2 R2 h2 => ?_
  split at h2
  · rename_i i
    cases h2
    cases R1
    obtain ⟨t, et, rfl, q1, q2, q3, q4⟩ := draw_of S2 R2
    obtain ⟨f1, f2, f3⟩ := hf t.2.1 t.2.2 w2 i
    refine ⟨t.1, _, rfl, DPut.k (k := .inr key) q1 (show 4 < sizeLine by decide), ?_⟩
    rw [f1]
    have n1 : t.2.1 ≠ t.1 := fun z => by
      rw [z, q1] at q2
      cases q2
    have n2 : t.2.2 ≠ t.1 := fun z => by
      rw [z, q1] at q3
      cases q3
    have kp : Kp F.dr H2 (upd H2 t.1 (.dK (drK t.2.1 t.2.2 (f w2 i)))) := fun b u hb nb => by
      have z : b ≠ t.1 := fun z => nb (by rw [z]; exact Dr.mem1 et)
      rw [upd_ne z]
      exact hb
    have dw : DrawAt F.dr (f w2 i) (upd H2 t.1 (.dK (drK t.2.1 t.2.2 (f w2 i)))) := by
      refine ⟨fun t' e' => ?_, tabs_upd S2.draw.2 (fun p hp z => ?_) q1 (fun _ z => nomatch z)⟩
      · rw [et] at e'
        cases e'
        exact ⟨upd_same, by rw [upd_ne n1, f2]; exact q2, by rw [upd_ne n2, f3]; exact q3, q4.1, by rw [f3]; exact q4.2⟩
      · obtain ⟨ps, hp', _⟩ := S2.draw.2 p hp
        rw [z, q1] at hp'
        cases hp'
    exact kq _ O2 _ (S2.kept kp dw) ((e1.trans e2).trans (vis_kp S2.drO kp))
  · cases h2
end
end FD

end sec_FD14
section sec_FD15
set_option maxRecDepth 100000
set_option maxHeartbeats 5000000
/-! FD15: more of arithmetic; the def that begins the draws; the law. -/
namespace FD
open PySem L2
variable [Tabl]
open PyProof.Rows (envOfC)
section
variable {X : Cx}
def powI (i j : Int) : Option RV := if 0 ≤ j ∧ j ≤ 1000000 ∧ i.natAbs < 2 ^ 64 then some (.sh (.int (i ^ j.toNat))) else none
theorem opD_pow : OpR X (binaryOp .Pow) (rP2 (ct X) (intD powI)) := opD_int op_pow fun i j r e => by
  unfold powI at e
  split at e
  · rename_i h
    cases e
    exact ⟨h, _, rfl, fun _ _ _ => .int _⟩
  · cases e
def negD : D → Option RV
  | .int i => some (.sh (.int (-i)))
  | _ => none
theorem unD_neg : UnR X (unaryOp .USub) (rP1 (ct X) negD) := by
  intro pins s σ H x v Q I rx h
  obtain ⟨da, O, d1, r, hO, P, eg, q⟩ := h
  unfold negD at eg
  split at eg
  · cases eg
    exact un_neg pins s σ H x v Q I rx ⟨_, P.int, q _ _ (Ex.refl _) (.int _)⟩
  · cases eg
def absD : List D → Option RV
  | [.int i] => some (.sh (.int (if i < 0 then -i else i)))
  | _ => none
theorem bD_abs : CallR X (.builtin "abs") (rPure (ct X) absD) := by
  intro pins s σ H xs us Q I r h
  obtain ⟨da, O, ds, rv, hO, p, eg, q⟩ := h
  unfold absD at eg
  split at eg
  · cases eg
    obtain ⟨v, rfl, P⟩ := p.one
    obtain rfl := P.int
    exact call_abs pins s σ H _ us Q I r ⟨_, rfl, q _ _ (Ex.refl _) (.int _)⟩
  · cases eg
/-- {key: value}, both written -/
theorem fe_dicS {key : Str} {i : Int} {j1 j2 : Nat} {p1 p2 pos : Pos} : FE X (.Dict [some (.Constant (.str key) j1 p1)] [.Constant (.int i) j2 p2] pos) (pureM (.fr (.dic [(.str key, .int i)]))) := fun F => PE.wk (pe_disp (pps_cons pe_str pe_int pps_nil) rfl rfl (by simp) (by simp)) fun σ H Q h => by
  obtain ⟨O, ρ, w, r, ρ', w', S, e, k⟩ := h
  cases e
  intro p np
  refine ⟨upd_same, [(.inr key, .int i)], rfl, by simp, ?_⟩
  have e2 : upd (upd H p (.dK [])) p (.dK (mergeK [] [((.inr key : Key), V.int i)])) = upd H p (.dK [(.inr key, .int i)]) := by
    funext b
    by_cases z : b = p
    · rw [z, upd_same, upd_same]
      rfl
    · rw [upd_ne z, upd_ne z, upd_ne z]
  rw [e2]
  have x2 : Ex H (upd H p (.dK [(.inr key, .int i)])) := Ex.new np
  obtain ⟨S3, n3, k3⟩ := S.hide np x2 upd_same
  exact k _ O _ (S.grow x2) (vis_mono x2) ⟨p, _, rfl, n3, S3, upd_same, .inr (.inl ⟨[(.inr key, .int i)], [(.str key, .int i)], rfl, rfl, .cons (k := .inr key) (.int i) .nil⟩), k3⟩
end

/-! ### the def that begins the draws -/
def offD : Dr := ⟨none, []⟩
def asInt : D → Option Int
  | .int i => some i
  | _ => none
def asInts : List D → Option (List Int)
  | [] => some []
  | d :: r => match asInt d with
    | some i => (asInts r).map (i :: ·)
    | none => none
theorem asInts_some : ∀ {ds : List D} {is : List Int}, asInts ds = some is → ds = is.map D.int
  | [], _, h => by
    cases h
    rfl
  | d :: r, _, h => by
    unfold asInts at h
    split at h
    · rename_i b e
      cases q : asInts r with
      | none =>
        rw [q] at h
        cases h
      | some bs =>
        rw [q] at h
        cases h
        rw [asInts_some q]
        unfold asInt at e
        split at e
        · cases e
          rfl
        · cases e
    · cases h
theorem asInts_map : ∀ (is : List Int), asInts (is.map D.int) = some is
  | [] => rfl
  | b :: r => by
    rw [List.map_cons]
    unfold asInts
    rw [asInts_map r]
    rfl
theorem ne_keys : ((("wide" : Str) = "cells") = False ∧ (("wide" : Str) = "rest") = False ∧ (("wide" : Str) = "turn") = False) ∧ ((("cells" : Str) = "rest") = False ∧ (("cells" : Str) = "turn") = False ∧ (("rest" : Str) = "turn") = False) := by
  refine ⟨⟨?_, ?_, ?_⟩, ?_, ?_, ?_⟩ <;> exact eq_false (by decide +kernel)
theorem merge4 (a b c d : V) : mergeK [] [((.inr "wide" : Key), a), (.inr "cells", b), (.inr "rest", c), (.inr "turn", d)] = [(.inr "wide", a), (.inr "cells", b), (.inr "rest", c), (.inr "turn", d)] := by
  obtain ⟨⟨h1, h2, h3⟩, h4, h5, h6⟩ := ne_keys
  simp [mergeK, putK, Sum.inr.injEq, h1, h2, h3, h4, h5, h6]
/-- the wide numbers and the cells that come of the script -/
def begD (n : Nat) (f1 : M Fl) (f2 : M RV) (i : Nat) (ns : List Int) : Option (List Int × List Int) := match f1 (startE n [.scr ns]) ⟨[], [], 0, 0⟩ with
  | some (.nx, ρ, w) => (match ownL ρ i, f2 ρ w with
    | some _, some (.fr (.lst cs), ρ2, _) => (match ownL ρ2 i with
      | some ws => (match asInts ws with
        | some wi => (match asInts cs with
          | some ci => some (wi, ci)
          | none => none)
        | none => none)
      | none => none)
    | _, _ => none)
  | _ => none
def spB (c : Ct) (beg : List Int → Option (List Int × List Int)) : Sp := fun vs H Q _ => ∃ a ns wi ci, vs = [.ref a] ∧ SqL c.K H a (ns.map V.int) ∧ LamX.Tabs Tabl.T H ∧ beg ns = some (wi, ci) ∧
  ∀ (t : Addr × Addr × Addr) H', H t.1 = none → H t.2.1 = none → H t.2.2 = none → Kp offD H H' → LamX.Tabs Tabl.T H' → H' t.1 = some (.dK (drK t.2.1 t.2.2 ⟨wi, ci, 0, 0⟩)) → H' t.2.1 = some (.lst (wi.map V.int)) → H' t.2.2 = some (.lst (ci.map V.int)) → t.2.1 ≠ t.2.2 → Q (.ref t.1) H'
section
variable {P : Program} {w : World} {K : PySem.W.Frag} {mg : Str → Option Value} {base : Heap}
theorem offD_as : offD.as = Tabl.T.map (·.1) := rfl
theorem begun_ok {x qual : Str} {st : Stmt} {f : Addr} {fd : FuncData} {N ps : List Str} {k i : Nat} {f1 : M Fl} {f2 : M RV} {st1 : Stmt} {e2 : Expr} {y : Str} {j1 j2 j3 j4 j5 j6 : Nat} {q1 q2 q3 q4 q5 q6 q7 q8 q9 : Pos} (F : Fun K x qual st f fd) (S : FnScope N ps (defScope st)) (hps : ps.length = 1)
    (hbd : defBody st = [st1, .Return (some (.Dict [some (.Constant (.str "wide") j1 q1), some (.Constant (.str "cells") j2 q2), some (.Constant (.str "rest") j3 q3), some (.Constant (.str "turn") j4 q4)] [.Name y q5, e2, .Constant (.int 0) j5 q6, .Constant (.int 0) j6 q7] q8)) q9])
    (hb1 : ∀ (cdv : Value) (A : Around) (outer : List PySem.Env) (s : Shared) (H : Hp) (E : XK), Room k (A.deeper (envOfC qual (defScope st) s.heap.objs.size f cdv)) → FS (cxOf CX0 P w K mg base N qual (defScope st) f cdv A outer s H E).nox st1 f1)
    (hb2 : ∀ (cdv : Value) (A : Around) (outer : List PySem.Env) (s : Shared) (H : Hp) (E : XK), Room k (A.deeper (envOfC qual (defScope st) s.heap.objs.size f cdv)) → FE (cxOf CX0 P w K mg base N qual (defScope st) f cdv A outer s H E).nox e2 f2)
    (hy : N[i]? = some y) (hyv : Vis (defScope st) y) (hd : (y == ("__debug__" : Str)) = false) (hcd : (y == ("__classdict__" : Str)) = false) :
    FnOk P w K mg base CX0 (k + 1) f fd ps (spB ⟨K, mg⟩ (begD N.length f1 f2 i)) := by
  obtain ⟨oc, od, kV, doc, pm, an, cdv, ctt, osl, rfl, lk, hcdd⟩ := F.ex
  refine fn_of lk hcdd S (fun _ _ _ _ h => ?_) fun A outer s H vs Q E hr h => ?_
  · obtain ⟨a, ns, wi, ci, rfl, _⟩ := h
    rw [hps]
    rfl
  · obtain ⟨a, ns, wi, ci, rfl, hS, hT, hb, q⟩ := h
    rw [hbd]
    refine ⟨_, PSs.nox (pss_cons (hb1 cdv A outer s H E hr ⟨offD, Tabl.T.map (·.1), H⟩) (pss_one (ps_ret (pe_disp (pps_cons pe_str (pe_var (i := i) hy hyv hd hcd) (pps_cons pe_str (hb2 cdv A outer s H E hr ⟨offD, Tabl.T.map (·.1), H⟩) (pps_cons pe_str pe_int (pps_cons pe_str pe_int pps_nil)))) rfl rfl (by simp) (by simp))))), ?_⟩
    have d0 : DrawAt offD ⟨[], [], 0, 0⟩ H := ⟨(fun t e => nomatch (show (none : Option (Addr × Addr × Addr)) = some t from e)), hT⟩
    have tr0 : ∀ a ∈ Tabl.T.map (·.1), ∃ o, H a = some o ∧ NT o := fun a ha => d0.mem (by rw [offD_as]; exact ha)
    have nT : ∀ {b : Addr} {u : HO}, Rd H b u → (∀ ps, u ≠ .tbl ps) → b ∉ Tabl.T.map (·.1) := fun {b u} hr hn z => by
      obtain ⟨p, hp, rfl⟩ := List.mem_map.mp z
      obtain ⟨ps, e, _⟩ := hT p hp
      rcases hr with h | ⟨o, h⟩
      · rw [e] at h
        cases h
        exact hn _ rfl
      · rw [e] at h
        cases h
    have hS' : SqL K (vis (Tabl.T.map (·.1)) H) a (ns.map V.int) := by
      rcases hS with h | h
      · have na := nT h (fun _ z => nomatch z)
        rcases h with h | ⟨o, h⟩
        · exact .inl (.inl (by rw [vis_out na]; exact h))
        · exact .inl (.inr ⟨o, by rw [vis_out na]; exact h⟩)
      · exact .inr h
    have S0 : SR ⟨K, mg⟩ ⟨offD, Tabl.T.map (·.1), H⟩ (Tabl.T.map (·.1)) (startE N.length [.scr ns]) ⟨[], [], 0, 0⟩ (L2.start N [V.ref a]) H := start_sr (fun a ha => by rw [offD_as] at ha; exact ha) tr0 d0 (.cons (.scr hS') .nil)
    unfold begD at hb
    split at hb
    · rename_i ρ1 w1 e1
      refine ⟨Tabl.T.map (fun x : Addr × Str => x.1), startE N.length [.scr ns], ⟨[], [], 0, 0⟩, .nx, ρ1, w1, S0, e1, fun σ1 O1 H1 S1 x1 => ?_⟩
      split at hb
      · rename_i ws0 cs ρ2 w2 e0 e2
        split at hb
        · rename_i ws e3
          split at hb
          · rename_i wi' e4
            split at hb
            · rename_i ci' e5
              cases hb
              obtain rfl := asInts_some e4
              obtain rfl := asInts_some e5
              intro p np
              have x2 : Ex H1 (upd H1 p (.dK [])) := Ex.new np
              have S2 := S1.grow x2
              have nO1 : p ∉ O1 := fun z => by
                obtain ⟨o, h, _⟩ := S1.trk p z
                rw [np] at h
                cases h
              obtain ⟨a1, xs1, g1, _, _⟩ := own_obj S2 e0
              have hp2 : vis O1 (upd H1 p (.dK [])) p = some (.dK []) := by rw [vis_out nO1]; exact upd_same
              refine ⟨.ref a1, g1, O1, ρ1, w1, .fr (.lst (ci.map D.int)), ρ2, w2, S2, e2, fun v O3 H3 S3 x3 R3 => ?_⟩
              obtain ⟨a2, o2, rfl, n2, S4, g2, ob, _⟩ := R3
              have hp3 : H3 p = some (.dK []) := vis_ex _ _ (x3 _ _ hp2)
              obtain ⟨a1', o1, k1, k2, k3, k4, k5⟩ := S3.own i _ (ownL_some e3)
              rw [g1] at k1
              cases k1
              have l1 : o1 = .lst (wi.map V.int) := by
                rcases k5 with ⟨xs, es, rfl, z, r⟩ | ⟨_, _, _, z, _⟩ | ⟨_, _, _, z, _⟩ | ⟨_, _, _, _, _, _, z, _⟩
                · cases z
                  rw [r.ints_inv]
                · cases z
                · cases z
                · cases z
              have l2 : o2 = .lst (ci.map V.int) := by
                rcases ob with ⟨xs, es, rfl, z, r⟩ | ⟨_, _, _, z, _⟩ | ⟨_, _, _, z, _⟩ | ⟨_, _, _, _, _, _, z, _⟩
                · cases z
                  rw [r.ints_inv]
                · cases z
                · cases z
                · cases z
              subst l1
              subst l2
              have n12 : a1 ≠ a2 := fun z => n2 (z ▸ k2)
              have np1 : a1 ≠ p := fun z => by
                rw [z, hp3] at k4
                cases k4
              have np2 : a2 ≠ p := fun z => by
                rw [z, hp3] at g2
                cases g2
              refine ⟨hp3, [(.inr "wide", .ref a1), (.inr "cells", .ref a2), (.inr "rest", .int 0), (.inr "turn", .int 0)], rfl, by simp, ?_⟩
              rw [merge4]
              have hp0 : H p = none := by
                cases z : H p with
                | none => rfl
                | some o =>
                  by_cases m : p ∈ offD.as
                  · obtain ⟨o', z', _⟩ := S1.trk p (S1.sub p (S1.drs p m))
                    rw [np] at z'
                    cases z'
                  · have z' := S1.base p o z m
                    rw [np] at z'
                    cases z'
              refine q (p, a1, a2) _ hp0 (S3.new a1 k2 k3) (S4.new a2 List.mem_cons_self fun z => n2 (S3.sub a2 z)) (fun b o hb nb => ?_) (tabs_upd S3.draw.2 (fun t ht z => ?_) hp3 (fun _ z => nomatch z)) upd_same (by rw [upd_ne np1]; exact k4) (by rw [upd_ne np2]; exact g2) n12
              · have z1 := S1.base b o hb nb
                rw [upd_ne (ne_of_none z1 np)]
                exact S3.base b o hb nb
              · obtain ⟨ps, hp', _⟩ := S3.draw.2 t ht
                rw [z, hp3] at hp'
                cases hp'
            · cases hb
          · cases hb
        · cases hb
      · cases hb
    · cases hb
end
end FD

end sec_FD15
section sec_LG
set_option maxRecDepth 100000
set_option maxHeartbeats 5000000
/-! LG: a def that is run where no repr is under way, and the law as such a def. -/
namespace LG
open PySem PySem.Spec PyProof.Rows L2 LamX
section
variable {P : Program} {w : World} {K : PySem.W.Frag} {mg mb : Str → Option Value} {base : Heap}
/-- what f promises to a caller that stands in A -/
def Runs (P : Program) (w : World) (K : PySem.W.Frag) (mg : Str → Option Value) (base : Heap) (A : Around) (f : Addr) (fd : FuncData) (ps : List Str) (sp : Sp) : Prop :=
  ∀ (outer : List Env) (s : Shared) (H : Hp) (args : Args) (us : List Value) (vs : List V) (Q : VK) (E : XK),
    Env0 P w K mg base A outer s H → BindsTo s fd args (ps.zip us) → Vals vs us → sp vs H Q E → codeAny (model P w) A (.call (.ref f) args) (CR CX0 outer P w H s Q E) s
structure FnG (P : Program) (w : World) (K : PySem.W.Frag) (mg : Str → Option Value) (base : Heap) (k : Nat) (f : Addr) (fd : FuncData) (ps : List Str) (sp : Sp) : Prop where
  len : ∀ vs H Q E, sp vs H Q E → vs.length = ps.length
  runs : ∀ A, Room k A → A.guards = some [] → Runs P w K mg base A f fd ps sp
theorem runs_of {A : Around} {k : Nat} {f : Addr} {name qual : Str} {params : Arguments} {body : List Stmt} {scope : Scope} {dV kV doc pm cdv ct oc : Value} {an od : Option Addr} {osl : Array (Option Value)} {N ps : List Str} {sp : Sp}
    (lk : K.lookup f = some ⟨oc, od, .func (PySem.W.fnOf name qual params body scope dV kV doc pm an cdv ct), osl⟩) (code : PySem.W.codeIn K cdv qual = true) (S : FnScope N ps scope) (len : ∀ vs H Q E, sp vs H Q E → vs.length = ps.length) (room : Room (k + 1) A)
    (go : ∀ (outer : List Env) (s : Shared) (H : Hp) (vs : List V) (Q : VK) (E : XK), sp vs H Q E → ∃ t, PSs (cxOf CX0 P w K mg base N qual scope f cdv A outer s H E) body t ∧ t { nx := fun _ H2 => Q .non H2, rt := Q } (L2.start N vs) H) :
    Runs P w K mg base A f (PySem.W.fnOf name qual params body scope dV kV doc pm an cdv ct) ps sp := by
  intro outer s H args us vs Q E e0 bt rel sat
  obtain ⟨t, good, pre⟩ := go outer s H vs Q E sat
  have stays : ∀ b o, base.get? b = some o → s.heap.get? b = some o := fun b o q => (e0.bs b o q).1
  have inK := e0.mod.kin.keeps stays
  apply codeAny_call_function room.depth (inK f _ lk) rfl S.co S.gen rfl (PySem.W.codeRec_of inK code)
  apply bt
  refine wpAny_newFunctionEnv_cells S.kind ?par ?run
  case par =>
    intro q hq
    cases S.par q.1 (List.of_mem_zip hq).1 with
    | inl z => exact Or.inl z
    | inr z => exact Or.inr ⟨z, PySem.W.cellsFrom_some _ _ _ (Or.inl z)⟩
  case run =>
    intro env he s1 made
    cases he
    constructor
    · exact (e0.mod.nolimit.keeps stays).keeps made.toInCall.keep
    apply codeAny_func
    apply wpAny_mono (good.run [] s1 _ H _ (inv_start S room.hd e0 (len _ _ _ _ sat) rel made) pre)
    · intro fl s2 out
      match fl, out with
      | .ret u, ⟨v, _, H2, J, rv, q⟩ => exact ⟨v, H2, J.os, J.bare, J.base, J.hok, rv, q⟩
      | .next, ⟨_, H2, J, q⟩ => exact ⟨V.non, H2, J.os, J.bare, J.base, J.hok, (rfl : RelV V.non Value.none), q⟩
      | .brk, ⟨_, _, _, q⟩ => exact absurd q id
      | .cont, ⟨_, _, _, q⟩ => exact absurd q id
    · intro _ _ z
      exact z
/-! ### the state in which the law is called -/
/-- a table of code objects that is still empty -/
abbrev tabO : Obj := { cls := .none, data := .fields #[] }
abbrev lstO (vs : List Value) : Obj := { cls := .type "list", data := .seq vs.toArray }
structure Stage (P : Program) (w : World) (K : PySem.W.Frag) (mg mb : Str → Option Value) (cs : List (Addr × Addr)) (s : Shared) (a : Addr) (vs : List Value) (ns : List Int) : Prop where
  frag : K.In s.heap
  main : s.heap.Ns mainGlobals mg
  blt : s.heap.Ns builtinsNs mb
  boot : ∀ x : Str, x ≠ "__name__" → mb x = bootBuiltins x
  lim : s.heap.NoLimit
  gens : s.gens = #[]
  tab : ∀ p ∈ cs, s.heap.get? p.2 = some tabO
  out : ∀ p ∈ cs, K.lookup p.2 = none
  codes : ∀ p ∈ cs, PySem.W.CodeHd s.heap p.1 p.2
  bm : ∃ (bm : Addr) (ob : Obj), mg "__builtins__" = some (.ref bm) ∧ bm ≠ builtinsNs ∧ s.heap.get? bm = some ob ∧ ob.cls = .type "module" ∧ ob.dict = some builtinsNs ∧ ob.data = .plain
  lst : s.heap.get? a = some (lstO vs)
  nums : IntsAre vs ns
  most : ns.length ≤ sizeLine
/-- what is tracked at the start: the tables, and the script unless it is a constant -/
def seen (K : PySem.W.Frag) (cs : List (Addr × Addr)) (a : Addr) (vs : List Value) (ns : List Int) : Hp := fun b =>
  if (cs.any fun p => p.2 == b) = true then some (.tbl #[]) else if b = a ∧ (K.lookup a).isNone = true then some (.frz (lstO vs) (.lst (ns.map V.int))) else none
def tracksData : Data → Bool
  | .seq _ _ => true
  | .fields vs => vs.isEmpty
  | _ => false
variable {cs : List (Addr × Addr)} {s : Shared} {a : Addr} {vs : List Value} {ns : List Int}
theorem anyT {b : Addr} : (cs.any fun p => p.2 == b) = true ↔ ∃ p ∈ cs, p.2 = b := by simp [List.any_eq_true]
theorem seen_inv {b : Addr} {u : HO} (h : seen K cs a vs ns b = some u) : ((∃ p ∈ cs, p.2 = b) ∧ u = .tbl #[]) ∨ (b = a ∧ K.lookup a = none ∧ u = .frz (lstO vs) (.lst (ns.map V.int))) := by
  unfold seen at h
  split at h
  · rename_i z
    cases h
    exact Or.inl ⟨anyT.mp z, rfl⟩
  · split at h
    · rename_i z
      cases h
      exact Or.inr ⟨z.1, Option.isNone_iff_eq_none.mp z.2, rfl⟩
    · cases h
theorem seen_tab {p : Addr × Addr} (hp : p ∈ cs) : seen K cs a vs ns p.2 = some (.tbl #[]) := if_pos (anyT.mpr ⟨p, hp, rfl⟩)
namespace Stage
variable (Z : Stage P w K mg mb cs s a vs ns)
include Z
theorem obj {b : Addr} {u : HO} (h : seen K cs a vs ns b = some u) : ∃ o, s.heap.get? b = some o ∧ tracksData o.data = true ∧ K.lookup b = none := by
  cases seen_inv h with
  | inl z =>
    obtain ⟨⟨p, hp, rfl⟩, _⟩ := z
    exact ⟨tabO, Z.tab p hp, rfl, Z.out p hp⟩
  | inr z => exact ⟨lstO vs, by rw [z.1]; exact Z.lst, rfl, by rw [z.1]; exact z.2.1⟩
theorem off {b : Addr} {o : Obj} (e : s.heap.get? b = some o) (n : tracksData o.data = false) : seen K cs a vs ns b = none := by
  match q : seen K cs a vs ns b with
  | none => rfl
  | some u =>
    obtain ⟨o2, e2, t2, _⟩ := Z.obj q
    rw [e] at e2
    injection e2 with e2
    rw [e2, t2] at n
    cases n
theorem low {b : Addr} {o : Obj} (e : s.heap.get? b = some o) (n : tracksData o.data = false) : (hidT s.heap (seen K cs a vs ns)).get? b = some o := hidT_get e (Z.off e n)
theorem lowNs {b : Addr} {m : Str → Option Value} (h : s.heap.Ns b m) : (hidT s.heap (seen K cs a vs ns)).Ns b m := by
  obtain ⟨o, es, ep, e, d, rest⟩ := h
  exact ⟨o, es, ep, Z.low e (by rw [d]; rfl), d, rest⟩
theorem lowK : K.In (hidT s.heap (seen K cs a vs ns)) := by
  intro b o e
  apply hidT_get (Z.frag b o e)
  match q : seen K cs a vs ns b with
  | none => rfl
  | some u =>
    obtain ⟨_, _, _, n⟩ := Z.obj q
    rw [n] at e
    cases e
theorem lowMod : L2.Mod K mg (hidT s.heap (seen K cs a vs ns)) := by
  obtain ⟨mc, l1, l2⟩ := Z.lim
  exact ⟨Z.lowK, Z.lowNs Z.main, ⟨mb, Z.lowNs Z.blt, Z.boot⟩, ⟨mc, Z.lowNs l1, l2⟩⟩
theorem lowTab {p : Addr × Addr} (hp : p ∈ cs) : TabB (hidT s.heap (seen K cs a vs ns)) mg p.1 p.2 := by
  obtain ⟨om, em, pm, eM, dM, _⟩ := Z.main
  have tp := Z.tab p hp
  refine ⟨?code, ?bm, ?ne⟩
  case code =>
    obtain ⟨o, us, x1, x2, x3, x4, x5, x6, x7, e, c1, c2, c3, rest⟩ := Z.codes p hp
    refine ⟨o, us, x1, x2, x3, x4, x5, x6, x7, Z.low e ?_, c1, c2, c3, rest⟩
    rw [c2]
    show us.isEmpty = false
    have : 11 < us.size := (Array.getElem?_eq_some_iff.mp c3).1
    rw [Array.isEmpty, decide_eq_false_iff_not]
    omega
  case bm =>
    obtain ⟨bm, ob, b1, b2, b3, b4, b5, b6⟩ := Z.bm
    refine ⟨bm, ob, b1, b2, ?_, ?_, Z.low b3 (by rw [b6]; rfl), b4, b5, b6⟩
    · rintro rfl
      rw [eM] at b3
      injection b3 with b3
      rw [← b3, dM] at b6
      cases b6
    · rintro rfl
      rw [tp] at b3
      injection b3 with b3
      rw [← b3] at b6
      cases b6
  case ne =>
    intro z
    rw [z, tp] at eM
    injection eM with eM
    rw [← eM] at dM
    cases dM
theorem heapOk : HOk P w (seen K cs a vs ns) s.heap := by
  intro b u h
  cases seen_inv h with
  | inl z =>
    obtain ⟨⟨p, hp, rfl⟩, rfl⟩ := z
    exact Z.tab p hp
  | inr z =>
    obtain ⟨rfl, _, rfl⟩ := z
    exact ⟨Z.lst, by simpa using Z.most, vs, _, vals_ints Z.nums, Z.lst⟩
theorem script : SqL K (seen K cs a vs ns) a (ns.map V.int) := by
  match q : K.lookup a with
  | none =>
    refine Or.inl (Or.inr ⟨lstO vs, ?_⟩)
    unfold seen
    rw [if_neg, if_pos ⟨rfl, by rw [q]; rfl⟩]
    intro z
    obtain ⟨p, hp, rfl⟩ := anyT.mp z
    have := Z.lst
    rw [Z.tab p hp] at this
    cases this
  | some o =>
    have e := Z.frag a o q
    rw [Z.lst] at e
    injection e with e
    subst e
    exact Or.inr ⟨_, vs.toArray, _, q, rfl, rfl, rfl, by simpa [Z.nums.length] using Z.most, by simpa using vals_ints Z.nums⟩
theorem env : Env0 P w K mg (hidT s.heap (seen K cs a vs ns)) callerA [] s (seen K cs a vs ns) where
  frames := rfl
  mod := Z.lowMod
  bs := fun b o e => of_hidT e
  bsz := Nat.le_of_eq (hidT_size _ _)
  funs := trivial
  frf := by
    intro b hb
    cases hb
  hok := Z.heapOk
  bare := .of_eq Z.gens
/-- the law, called: nothing that stood there is changed but the tables, which grow -/
theorem called {k : Nat} {fa : Addr} {fd : FuncData} {x : Str} {sp : Sp} (room : Room k callerA) (F : FnG P w K mg (hidT s.heap (seen K cs a vs ns)) k fa fd [x] sp)
    (hb : ∀ (s : Shared) (u : Value), BindsTo s fd ⟨[u], []⟩ [(x, u)]) (sat : ∀ H : Hp, (∀ p ∈ cs, H p.2 = some (.tbl #[])) → SqL K H a (ns.map V.int) → sp [.ref a] H (fun v _ => v = .bl true) fun _ _ _ => False) :
    codeAny (model P w) callerA (.call (.ref fa) ⟨[.ref a], []⟩) (fun r s2 => r = .ok (.ret (.bool true)) ∧ OldK s.heap s2.heap ∧ s2.os = s.os ∧ AllBare s2.gens) s := by
  have go := F.runs callerA room rfl [] s _ ⟨[.ref a], []⟩ [.ref a] [.ref a] _ _ Z.env (hb s (.ref a)) (.cons rfl .nil) (sat _ (fun p hp => seen_tab hp) Z.script)
  apply codeAny_mono go
  intro r s2 end2
  match r, end2 with
  | .error _, z => exact absurd z id
  | .ok .next, z => exact absurd z id
  | .ok .brk, z => exact absurd z id
  | .ok .cont, z => exact absurd z id
  | .ok (.ret u), ⟨v, H2, os, bare, un, hok, rv, q⟩ =>
    have q : v = .bl true := q
    rw [q] at rv
    have ru : u = Value.bool true := rv
    have grown : ∀ p ∈ cs, ∃ more : Array Value, s2.heap.get? p.2 = some { cls := .none, data := .fields more } := fun p hp => by
      obtain ⟨more, z⟩ := un.tbls p.2 #[] (seen_tab hp)
      exact ⟨_, hok p.2 _ z⟩
    have same : ∀ b o, (¬ ∃ p ∈ cs, p.2 = b) → s.heap.get? b = some o → s2.heap.get? b = some o := fun b o nb e => by
      match t : seen K cs a vs ns b with
      | none => exact un.keep b o e t (by intro z; cases z) (by intro z; cases z)
      | some u2 =>
        cases seen_inv t with
        | inl z => exact absurd z.1 nb
        | inr z =>
          obtain ⟨rfl, _, rfl⟩ := z
          have f1 := (Z.heapOk _ _ t).1
          have f2 := (hok _ _ (un.frzs _ _ _ t)).1
          rw [e] at f1
          rw [f1]
          exact f2
    refine ⟨by rw [ru], ⟨fun b o e => ?_, fun b o e => ?_⟩, os, bare⟩
    · by_cases hb : ∃ p ∈ cs, p.2 = b
      · obtain ⟨p, hp, rfl⟩ := hb
        obtain ⟨new, hm⟩ := grown p hp
        rw [Z.tab p hp] at e
        injection e with e
        subst e
        refine Or.inr (Or.inl ⟨((Z.codes p hp).tab (Z.tab p hp)).isCodeTable, rfl, #[], new, rfl, ?_⟩)
        rw [Array.empty_append]
        exact hm
      · exact Or.inl (same b o hb e)
    · by_cases hb : ∃ p ∈ cs, p.2 = b
      · obtain ⟨p, hp, rfl⟩ := hb
        obtain ⟨new, hm⟩ := grown p hp
        exact ⟨_, hm⟩
      · exact ⟨o, same b o hb e⟩
end Stage
end
/-- a script of at most n numbers, none of them beyond the bits -/
def ScriptOk (n : Nat) (ns : List Int) : Prop := ns.length ≤ n ∧ ∀ z ∈ ns, Builtin.Int.intBits z ≤ 1048576
/-- a dict that is none of ours stands at the place of sys.modules -/
def SmAt (base : Heap) : Prop := ∃ o es ep, base.get? sysModules = some o ∧ o.data = .dict es ep
/-- the same for a law that asks for the repr of what holds dicts -/
def LawS (l : PySem.W.OpenLaw) (w : World) (K : PySem.W.Frag) (k n : Nat) (x : Str) (mg : Str → Option Value) (fa : Addr) (h : Heap) : Prop :=
  ∃ (fd : FuncData) (cs : List (Addr × Addr)) (sp : Sp), (∀ p ∈ cs, h.get? p.2 = some tabO ∧ K.lookup p.2 = none ∧ PySem.W.CodeHd h p.1 p.2) ∧ (∀ (s : Shared) (u : Value), BindsTo s fd ⟨[u], []⟩ [(x, u)]) ∧
    (∀ (H : Hp) (a : Addr) (ns : List Int), ScriptOk n ns → (∀ p ∈ cs, H p.2 = some (.tbl #[])) → SqL K H a (ns.map V.int) → sp [.ref a] H (fun v _ => v = .bl true) fun _ _ _ => False) ∧
    ∀ base : Heap, K.In base → base.Ns mainGlobals mg → SmAt base → (∀ p ∈ cs, TabB base mg p.1 p.2) → FnG l.prog w K mg base k fa fd [x] sp
theorem walkS {l : PySem.W.OpenLaw} {n k : Nat} {q : Program} {loose : List Str} {XP : (Str → Option Value) → Heap → Prop} {YP : World → Heap → Prop} {d : DefRec} {K : Params → PySem.W.Frag} {x : Str} (most : l.most = some n) (small : n ≤ sizeLine)
    (plain : d.params.defaults = []) (room : Room k callerA) (frag : ∀ (w : World) (h : Heap), YP w h → (K w.params).In h) (still : importsNone q = true)
    (row : ∀ (w : World) (mg : Str → Option Value) (fa : Addr) (h : Heap), YP w h → (K w.params).In h → h.Ns mainGlobals mg → mg d.name = some (.ref fa) → LawS l w (K w.params) k n x mg fa h) :
    PySem.W.WalkO q loose XP YP l.row.toRowW d [] fun g us => PySem.call g us := by
  apply Att.attach_callB most plain
  intro w s0 s mg mb fa o pm cd doc a vs ns G Y _ _ _ name lst nums len bits gens
  obtain ⟨fd, cs, sp, hcs, hb, sat, F⟩ := row w mg fa _ Y (frag w _ Y) G.T.g name
  have Z : Stage l.prog w (K w.params) mg mb cs s a vs ns := ⟨frag w _ Y, G.T.g, G.T.b, G.T.builtins, G.T.nolimit, gens, fun p hp => (hcs p hp).1, fun p hp => (hcs p hp).2.1, fun p hp => (hcs p hp).2.2, G.T.bmain, lst, nums, Nat.le_trans len small⟩
  obtain ⟨mm, hm, _⟩ := (G.T.seer still).mods
  have sm : SmAt (hidT s.heap (seen (K w.params) cs a vs ns)) := by
    obtain ⟨o, es, ep, e, d, _⟩ := Z.lowNs hm
    exact ⟨o, es, ep, e, d⟩
  exact Z.called room (F _ Z.lowK (Z.lowNs Z.main) sm fun p hp => Z.lowTab hp) hb fun H hH hS => sat H a ns ⟨len, bits⟩ hH hS
end LG

end sec_LG
section sec_FD16
set_option maxRecDepth 100000
set_option maxHeartbeats 5000000
/-! FD16: the law. -/
namespace FD
open PySem L2
variable [Tabl]
open PyProof.Rows (envOfC)
def endT : Option (Fl × Env × W) → Bool
  | some (.ret (.sh (.bl b)), _, _) => b
  | _ => false
def denL (n : Nat) (beg : List Int → Option (List Int × List Int)) (fr : M Fl) (ns : List Int) : Bool := match beg ns with
  | some (wi, ci) => endT (fr ((startE n [.scr ns]).set 1 (some (.val .draw))) ⟨wi, ci, 0, 0⟩)
  | none => false
def spL (c : Ct) (den : List Int → Bool) : Sp := fun vs H Q _ => ∃ a ns, vs = [.ref a] ∧ SqL c.K H a (ns.map V.int) ∧ LamX.Tabs Tabl.T H ∧ den ns = true ∧ ∀ H', Q (.bl true) H'
section
variable {P : Program} {w : World} {K : PySem.W.Frag} {mg : Str → Option Value} {base : Heap}
theorem FSs.any {X : Cx} {sts : List Stmt} {f : M Fl} (h : FSs X sts f) : PSs X sts (fun E σ H => ∃ F, tS (ct X) F f E σ H) := ⟨fun pins s σ H E I ⟨F, q⟩ => (h F).run pins s σ H E I q⟩
theorem law_okL {st : Stmt} {f g : Addr} {fd fdg : FuncData} {N psg : List Str} {k kg : Nat} {fr : M Fl} {rest : List Stmt} {x y : Str} {beg : List Int → Option (List Int × List Int)} {p1 p2 p3 p4 p5 : Pos} (F : Fun K "law" "law" st f fd) (S : FnScope N [x] (defScope st))
    (FB : FnOk P w K mg base CX0 kg g fdg psg (spB ⟨K, mg⟩ beg)) (mb : mg y = some (.ref g)) (kpb : PySem.W.keepIn K (.ref g) = true) (bb : Binds K fdg psg []) (hkg : kg ≤ k)
    (hbd : defBody st = .Assign [.Name "_law_draw" p1] (.Call (.Name y p2) [.Name x p3] [] p4) p5 :: rest)
    (hN0 : N[0]? = some x) (hN1 : N[1]? = some ("_law_draw" : Str)) (v0 : Vis (defScope st) x) (l1 : Loc (defScope st) ("_law_draw" : Str)) (hgy : (defScope st).names.lookup y = some .globalImplicit)
    (hxd : (x == ("__debug__" : Str)) = false) (hxc : (x == ("__classdict__" : Str)) = false) (hyd : (y == ("__debug__" : Str)) = false)
    (hrest : ∀ (cdv : Value), (∃ (oc : Value) (od : Option Addr) (kV doc pm : Value) (an : Option Addr) (ct : Value) (osl : Array (Option Value)), K.lookup f = some ⟨oc, od, .func (PySem.W.fnOf "law" "law" (defArgs st) (defBody st) (defScope st) .none kV doc pm an cdv ct), osl⟩) → ∀ (A : Around) (outer : List PySem.Env) (s : Shared) (H : Hp) (E : XK), Room k (A.deeper (envOfC "law" (defScope st) s.heap.objs.size f cdv)) → A.guards = some [] → FSs (cxOf CX0 P w K mg base N "law" (defScope st) f cdv A outer s H E).nox rest fr) :
    LG.FnG P w K mg base (k + 1) f fd [x] (spL ⟨K, mg⟩ (denL N.length beg fr)) := by
  obtain ⟨oc, od, kV, doc, pm, an, cdv, ctt, osl, rfl, lk, hcdd⟩ := F.ex
  have len : ∀ vs H Q E, spL ⟨K, mg⟩ (denL N.length beg fr) vs H Q E → vs.length = [x].length := fun vs H Q E h => by
    obtain ⟨a, ns, rfl, _⟩ := h
    rfl
  refine ⟨len, fun A room hG => LG.runs_of lk hcdd S len room fun outer s H vs Q E h => ?_⟩
  · have hr := room.deeper (envOfC "law" (defScope st) s.heap.objs.size f cdv)
    obtain ⟨a, ns, rfl, hS, hT, hb, q⟩ := h
    rw [hbd]
    refine ⟨_, PSs.nox (pss_cons (ps_set (i := 1) (X := (cxOf CX0 P w K mg base N "law" (defScope st) f cdv A outer s H E).nox) S.nd hN1 l1 (pe_call FB (hr.mono hkg) hgy mb kpb bb .nil pass0 (pa_cons (pe_var (i := 0) hN0 v0 hxd hxc) pa_nil) hyd) rfl (.inl rfl)) (hrest cdv ⟨oc, od, kV, doc, pm, an, ctt, osl, lk⟩ A outer s H E hr hG).any), ?_⟩
    unfold denL at hb
    split at hb
    · rename_i wi ci eb
      refine ⟨.ref a, rfl, ?_⟩
      refine ⟨a, ns, wi, ci, rfl, hS, hT, eb, fun t H' f1 f2 f3 kp hT' g1 g2 g3 ne => ?_⟩
      have dw : DrawAt ⟨some t, ci⟩ ⟨wi, ci, 0, 0⟩ H' := ⟨fun t' e => by
        cases e
        exact ⟨g1, g2, g3, ne, rfl⟩, hT'⟩
      have nT : ∀ {b : Addr} {u : HO}, Rd H b u → (∀ ps, u ≠ .tbl ps) → b ∉ Tabl.T.map (·.1) := fun {b u} hr hn z => by
        obtain ⟨p, hp, rfl⟩ := List.mem_map.mp z
        obtain ⟨ps, e, _⟩ := hT p hp
        rcases hr with h | ⟨o, h⟩
        · rw [e] at h
          cases h
          exact hn _ rfl
        · rw [e] at h
          cases h
      have nA : ∀ {b : Addr} {u : HO}, Rd H b u → (∀ ps, u ≠ .tbl ps) → b ∉ (⟨some t, ci⟩ : Dr).as := fun {b u} hr hn z => by
        have nb : H b ≠ none := by
          rcases hr with h | ⟨o, h⟩ <;> (rw [h]; simp)
        rcases List.mem_append.mp z with z | z
        · have z : b = t.1 ∨ b = t.2.1 ∨ b = t.2.2 := by simpa [Dr.ds] using z
          rcases z with z | z | z
          · rw [z] at nb
            exact nb f1
          · rw [z] at nb
            exact nb f2
          · rw [z] at nb
            exact nb f3
        · exact nT hr hn z
      have hS' : SqL K (vis (⟨some t, ci⟩ : Dr).as H') a (ns.map V.int) := by
        rcases hS with h | h
        · have n1 := nA h (fun _ z => nomatch z)
          have n2 := nT h (fun _ z => nomatch z)
          rcases h with h | ⟨o, h⟩
          · exact .inl (.inl (by rw [vis_out n1]; exact kp _ _ h n2))
          · exact .inl (.inr ⟨o, by rw [vis_out n1]; exact kp _ _ h n2⟩)
        · exact .inr h
      have S0 : SR ⟨K, mg⟩ ⟨⟨some t, ci⟩, (⟨some t, ci⟩ : Dr).as, H'⟩ (⟨some t, ci⟩ : Dr).as (startE N.length [.scr ns]) ⟨wi, ci, 0, 0⟩ (L2.start N [V.ref a]) H' := start_sr (fun _ h => h) (fun b hb => dw.mem hb) dw (.cons (.scr hS') .nil)
      have S1 := S0.setVal 1 (v := .ref t.1) (d := .draw) (.draw rfl)
      cases er : fr ((startE N.length [.scr ns]).set 1 (some (.val .draw))) ⟨wi, ci, 0, 0⟩ with
      | none =>
        rw [er] at hb
        cases hb
      | some z =>
        obtain ⟨fl, ρ', w'⟩ := z
        rw [er] at hb
        refine ⟨⟨⟨some t, ci⟩, (⟨some t, ci⟩ : Dr).as, H'⟩, _, _, _, fl, ρ', w', S1, er, ?_⟩
        cases fl with
        | ret r =>
          cases r with
          | sh d =>
            cases d with
            | bl b =>
              have hb : b = true := hb
              subst hb
              intro v σ O H2 S2 R
              cases R
              exact q H2
            | _ => cases hb
          | _ => cases hb
        | _ => cases hb
    · cases hb
theorem law_ok {st : Stmt} {f g : Addr} {fd fdg : FuncData} {N psg : List Str} {k kg : Nat} {fr : M Fl} {rest : List Stmt} {x y : Str} {beg : List Int → Option (List Int × List Int)} {p1 p2 p3 p4 p5 : Pos} (F : Fun K "law" "law" st f fd) (S : FnScope N [x] (defScope st))
    (FB : FnOk P w K mg base CX0 kg g fdg psg (spB ⟨K, mg⟩ beg)) (mb : mg y = some (.ref g)) (kpb : PySem.W.keepIn K (.ref g) = true) (bb : Binds K fdg psg []) (hkg : kg ≤ k)
    (hbd : defBody st = .Assign [.Name "_law_draw" p1] (.Call (.Name y p2) [.Name x p3] [] p4) p5 :: rest)
    (hN0 : N[0]? = some x) (hN1 : N[1]? = some ("_law_draw" : Str)) (v0 : Vis (defScope st) x) (l1 : Loc (defScope st) ("_law_draw" : Str)) (hgy : (defScope st).names.lookup y = some .globalImplicit)
    (hxd : (x == ("__debug__" : Str)) = false) (hxc : (x == ("__classdict__" : Str)) = false) (hyd : (y == ("__debug__" : Str)) = false)
    (hrest : ∀ (cdv : Value) (A : Around) (outer : List PySem.Env) (s : Shared) (H : Hp) (E : XK), Room k (A.deeper (envOfC "law" (defScope st) s.heap.objs.size f cdv)) → A.guards = some [] → FSs (cxOf CX0 P w K mg base N "law" (defScope st) f cdv A outer s H E).nox rest fr) :
    LG.FnG P w K mg base (k + 1) f fd [x] (spL ⟨K, mg⟩ (denL N.length beg fr)) := law_okL F S FB mb kpb bb hkg hbd hN0 hN1 v0 l1 hgy hxd hxc hyd fun cdv _ => hrest cdv
end
end FD

end sec_FD16
section sec_FD17
set_option maxRecDepth 100000
set_option maxHeartbeats 5000000
/-! FD17: short forms for printed derivations. -/
namespace FD
open PySem L2
open PyProof.Rows (envOfC)
theorem bo_len : bootBuiltins "len" = some (.builtin "len") := by decide +kernel
theorem bo_min : bootBuiltins "min" = some (.builtin "min") := by decide +kernel
theorem bo_abs : bootBuiltins "abs" = some (.builtin "abs") := by decide +kernel
theorem bo_repr : bootBuiltins "repr" = some (.builtin "repr") := by decide +kernel
theorem bo_int : bootBuiltins "int" = some (.type "int") := by decide +kernel
abbrev subD : D → D → Option RV := intD (i0 fun i j => .int (i - j))
abbrev geD : D → D → Option RV := intD (i0 fun i j => .bl (decide (j ≤ i)))
abbrev retM (f : M RV) : M Fl := bindM f fun r => pureM (.ret r)
abbrev setM' (i : Nat) (f : M RV) : M Fl := bindM f fun r => nxM (asgM i r)
abbrev parSt (is : List Nat) (f : M (List RV)) : M Fl := bindM f fun rs => nxM (parM is rs)
abbrev propM (cn : Str) (den : List D → W → Option (RV × W)) (fo : M RV) : M RV := bindM fo fun r => bindM (escR r) fun d => match d with
  | .ins c' gs => if c' = cn then runD den [d] else failM
  | _ => failM
variable [Tabl]
/-- a module's constant -/
structure GlbD (K : PySem.W.Frag) (mg : Str → Option Value) (x : Str) (d : D) : Prop where
  ex : ∃ u v, mg x = some u ∧ RelV v u ∧ ∀ da G, Rep ⟨K, mg⟩ da G v d
structure IsiC (K : PySem.W.Frag) (mg : Str → Option Value) (cn : Str) (bt : String → Bool) (ic : List (Str × Bool)) : Prop where
  ex : ∃ C, mg cn = some (.ref C) ∧ KndD K mg (fun t b => PySem.W.kitOne K t (.ref C) = some b) bt ic
section
variable {X : Cx} {x cn : Str} {d : D} {pos p p2 : Pos} {a : Expr} {fa : M RV} {bt : String → Bool} {ic : List (Str × Bool)}
theorem fe_isiC (h : IsiC X.K X.mg cn bt ic) (hgc : Gl X cn) (hm : X.mg "isinstance" = none) (hg : Gl X "isinstance") (ha : FE X a fa) (hd : (cn == ("__debug__" : Str)) = false := by decide)
    (hs : starEach [a, .Name cn p2] X.env = (false, eval a X.env) :: starEach [.Name cn p2] X.env := by rfl) (hs2 : starEach [.Name cn p2] X.env = (false, eval (.Name cn p2) X.env) :: starEach [] X.env := by rfl) (hpl : (backTo pos (starEach [.Name cn p2] X.env)).any (·.1) = false := by rfl) :
    FE X (.Call (.Name "isinstance" p) [a, .Name cn p2] [] pos) (isiM bt ic fa) := by
  obtain ⟨C, h1, h2⟩ := h.ex
  exact fe_isi hg hm (pe_glob (v := .ref C) hgc h1 rfl hd) (.own C) h2 ha hs hs2 hpl
end
theorem kk1 : (("wide" : Str) = "rest") = False := eq_false (by decide +kernel)
theorem kk2 : (("wide" : Str) = "turn") = False := eq_false (by decide +kernel)
theorem kk3 : (("cells" : Str) = "rest") = False := eq_false (by decide +kernel)
theorem kk4 : (("cells" : Str) = "turn") = False := eq_false (by decide +kernel)
theorem kk5 : (("rest" : Str) = "turn") = False := eq_false (by decide +kernel)
theorem kk6 : (("turn" : Str) = "rest") = False := eq_false (by decide +kernel)
theorem v_rest : ∀ a b w, valV (drK a b w) (.inr "rest") = some (.int (W.rest w)) := fun a b w => by simp [valV, drK, kk1, kk3]
theorem v_turn : ∀ a b w, valV (drK a b w) (.inr "turn") = some (.int (W.turn w)) := fun a b w => by simp [valV, drK, kk2, kk4, kk5]
theorem p_rest : ∀ a b w i, putK (drK a b w) (.inr "rest") (V.int i) = drK a b { w with rest := i } ∧ ({ w with rest := i } : W).wide = w.wide ∧ ({ w with rest := i } : W).cells = w.cells := fun a b w i => ⟨by simp [putK, drK, kk1, kk3, kk6], rfl, rfl⟩
theorem p_turn : ∀ a b w i, putK (drK a b w) (.inr "turn") (V.int i) = drK a b { w with turn := i } ∧ ({ w with turn := i } : W).wide = w.wide ∧ ({ w with turn := i } : W).cells = w.cells := fun a b w i => ⟨by simp [putK, drK, kk2, kk4, kk5], rfl, rfl⟩
section
variable {P : Program} {w : World} {K : PySem.W.Frag} {mg : Str → Option Value} {base : Heap}
end
end FD

end sec_FD17
section sec_FD18
set_option maxRecDepth 100000
set_option maxHeartbeats 5000000
/-! FD18: zip; is None; chains; sums and greatest numbers; a sign's place in a text; list times number. -/
namespace FD
open PySem L2
variable [Tabl]
/-! ### zip -/
section
variable {c : Ct} {dr : Dr} {G : Hp}
end
section
variable {X : Cx} {a b e e2 e3 : Expr} {es elts : List Expr} {pos p tpos apos : Pos} {kk : Nat} {fa fb fc fo fe : M RV} {fs : M (List RV)}
/-! ### is None -/
end
end FD

end sec_FD18
section sec_FD19
set_option maxRecDepth 100000
set_option maxHeartbeats 5000000
/-! FD19: dicts whose keys are tuples of numbers and texts. -/
namespace FD
open PySem L2
variable [Tabl]
def asKey : D → Option Key
  | .int i => some (.inl i)
  | .str x => some (.inr x)
  | _ => none
def asKeys : List D → Option (List Key)
  | [] => some []
  | d :: r => match asKey d with
    | some k => (match asKeys r with | some ks => some (k :: ks) | none => none)
    | none => none
def keyT : D → Option (List Key)
  | .tup ds => asKeys ds
  | _ => none
theorem asKey_kD (k : Key) : asKey (kD k) = some k := by cases k <;> rfl
theorem asKeys_kD : ∀ ks : List Key, asKeys (ks.map kD) = some ks
  | [] => rfl
  | k :: ks => by
    rw [List.map_cons]
    unfold asKeys
    rw [asKey_kD, asKeys_kD ks]
theorem keyT_kD (ks : List Key) : keyT (.tup (ks.map kD)) = some ks := asKeys_kD ks
theorem asKey_inv {d : D} {k : Key} (h : asKey d = some k) : d = kD k := by
  cases d <;> first | (cases h; rfl) | cases h
theorem asKeys_inv : ∀ {ds : List D} {ks : List Key}, asKeys ds = some ks → ds = ks.map kD
  | [], _, h => by cases h; rfl
  | d :: r, _, h => by
    unfold asKeys at h
    split at h
    · rename_i k e
      split at h
      · rename_i ks e2
        cases h
        rw [asKey_inv e, asKeys_inv e2]
        rfl
      · cases h
    · cases h
theorem keyT_inv {d : D} {ks : List Key} (h : keyT d = some ks) : d = .tup (ks.map kD) := by
  cases d <;> first | (rw [asKeys_inv (show asKeys _ = some ks from h)]) | cases h
def valT (ps : List (D × D)) (k : List Key) : Option D := (ps.find? fun p => decide (keyT p.1 = some k)).map (·.2)
def putT (ps : List (D × D)) (k : List Key) (d : D) : List (D × D) := if (ps.any fun p => decide (keyT p.1 = some k)) = true then ps.map (fun p => if keyT p.1 = some k then (p.1, d) else p) else ps ++ [(.tup (k.map kD), d)]
section
variable {c : Ct} {da : Option Addr} {G : Hp}
theorem RepAll.keys : ∀ {vs : List V} {ks : List Key}, RepAll c da G vs (ks.map kD) → vs = ks.map kV
  | _, [], h => by cases h; rfl
  | _, k :: ks, h => by
    cases h with
    | cons a b =>
      rw [RepAll.keys b]
      cases k <;> cases a <;> rfl
theorem RepKT.val : ∀ {kvs : List (List Key × V)} {ps : List (D × D)}, RepKT c da G kvs ps → ∀ (k : List Key), (valV kvs k = none ∧ valT ps k = none) ∨ ∃ v d, valV kvs k = some v ∧ valT ps k = some d ∧ Rep c da G v d
  | _, _, .nil, k => .inl ⟨rfl, rfl⟩
  | _, _, .cons (k := k0) (v := v) (d := d) h r, k => by
    by_cases e : k0 = k
    · refine .inr ⟨v, d, valV_pos e, ?_, h⟩
      subst e
      simp [valT, List.find?_cons, keyT_kD]
    · rcases RepKT.val r k with ⟨h1, h2⟩ | ⟨v', d', h1, h2, h3⟩
      · refine .inl ⟨by rw [valV_neg e]; exact h1, ?_⟩
        simp only [valT, List.find?_cons, keyT_kD, Option.some.injEq, e, decide_false]
        exact h2
      · refine .inr ⟨v', d', by rw [valV_neg e]; exact h1, ?_, h3⟩
        simp only [valT, List.find?_cons, keyT_kD, Option.some.injEq, e, decide_false]
        exact h2
theorem RepKT.any : ∀ {kvs : List (List Key × V)} {ps : List (D × D)}, RepKT c da G kvs ps → ∀ (k : List Key), (kvs.any fun kv => decide (kv.1 = k)) = ps.any fun p => decide (keyT p.1 = some k)
  | _, _, .nil, k => rfl
  | _, _, .cons (k := k0) h r, k => by
    simp only [List.any_cons, keyT_kD, Option.some.injEq]
    rw [RepKT.any r k]
theorem RepKT.length : ∀ {kvs : List (List Key × V)} {ps : List (D × D)}, RepKT c da G kvs ps → kvs.length = ps.length
  | _, _, .nil => rfl
  | _, _, .cons _ r => by simp [RepKT.length r]
end
/-- a dict that may be read -/
def pairsD : D → Option (List (D × D))
  | .dit ps => some ps
  | .fdit ps => some ps
  | _ => none
theorem RepP.key {c : Ct} {da : Option Addr} {O : List Addr} {H : Hp} {v : V} {d : D} {ks : List Key} (h : RepP c da O H v d) (e : keyT d = some ks) : ∃ b, v = .ref b ∧ H b = some (.tup (ks.map kV)) := by
  have z := keyT_inv e
  subst z
  obtain ⟨a, xs, rfl, q, r⟩ := h.tupH
  rw [r.keys] at q
  exact ⟨a, rfl, vis_ex _ _ q⟩
section
variable {X : Cx} {a b e e2 o : Expr} {es : List Expr} {pos p p2 pos' apos cpos : Pos} {x : Str} {i k : Nat} {fa fb fo fk fv fe : M RV}
/-! ### d[k] -/
/-! ### d.get(k, e) -/
def dgetM (fo fk fe : M RV) : M RV := bindM fo fun r1 => bindM fk fun r2 => bindM fe fun r3 => bindM (escR r3) fun z => lift2 (fun d k => match pairsD d with
  | some ps => (match keyT k with | some ks => some (.sh ((valT ps ks).getD z)) | none => none)
  | none => none) r1 r2
/-- the dict that is asked stands there from the start -/
def dictM (fo : M RV) : M RV := bindM fo fun r => fun ρ w => match peek ρ r with
  | some d => (match pairsD d with | some _ => some (r, ρ, w) | none => none)
  | none => none
/-! ### k in d -/
/-! ### x[k] = v, x a slot's own dict -/
end
end FD

end sec_FD19
section sec_FD20
set_option maxRecDepth 100000
set_option maxHeartbeats 5000000
/-! FD20: a dict that is given away is locked; its keys are walked. -/
namespace FD
open PySem L2
variable [Tabl]
section
variable {c : Ct} {F : Fm} {G : Hp} {O : List Addr} {ρ : Env} {w : W} {σ : L2.St} {H : Hp} {a : Addr} {i : Nat}
theorem SR.drop (S : SR c F O ρ w σ H) (i : Nat) : SR c F O (ρ.set i none) w σ H where
  len := by rw [List.length_set]; exact S.len
  base := S.base
  new := S.new
  sub := S.sub
  drs := S.drs
  trk := S.trk
  draw := S.draw
  val := fun j d h => by
    rcases getElem?_set_some h with ⟨_, z⟩ | ⟨_, h⟩
    · cases z
    · exact S.val j d h
  own := fun j d h => by
    rcases getElem?_set_some h with ⟨_, z⟩ | ⟨_, h⟩
    · cases z
    · exact S.own j d h
  uni := fun j j' d d' b h h' => by
    rcases getElem?_set_some h with ⟨_, z⟩ | ⟨_, h⟩
    · cases z
    · rcases getElem?_set_some h' with ⟨_, z⟩ | ⟨_, h'⟩
      · cases z
      · exact S.uni j j' d d' b h h'
end
section
variable {X : Cx} {a b e e2 o : Expr} {es : List Expr} {pos p p2 pos' apos cpos : Pos} {x : Str} {i k : Nat} {fa fb fo fk fv fe : M RV} {tg : Expr}
/-! ### k in d, k not in d -/
/-! ### for k in d, d locked -/
end
end FD

end sec_FD20
section sec_DC
set_option maxRecDepth 100000
set_option maxHeartbeats 5000000
/-! DC: {k: v for ..} whose keys are tuples of numbers and texts. -/
namespace DC
open PySem PySem.Spec PyProof.Rows L2
section
variable {X : Cx}
section
variable {kx vx tg iter : Expr} {ifs : List Expr} {scope : Scope} {own : List (Str × Nat)} {pos : Pos} {wi : TI} {g : TG} {tt : TT} {tk tv : TE}
end
end
end DC

end sec_DC
section sec_DV
set_option maxRecDepth 100000
set_option maxHeartbeats 5000000
/-! DV: list(d.values()) of a dict with tuple keys. -/
namespace DV
open PySem PySem.Spec PyProof.Rows L2
open PySem.W (KdlSrc)
/-- what is drawn from the entries, one by one, are the values -/
theorem told {P : Program} {w : World} {es : Array DictEntry} {xs : List (List Key × Addr × Value)} {out : List Value} (hent : es.toList = xs.map (entryOfKey (tupleKind (mixKind P w)))) (n : out.length = xs.length) (each : ∀ j v, out[j]? = some v → ∃ h : j < es.size, v = es[j].val) : out = xs.map fun x => x.2.2 := by
  apply List.ext_getElem (by simpa using n)
  intro j h1 h2
  obtain ⟨lt, e⟩ := each j _ (List.getElem?_eq_getElem h1)
  have at_ := entry_at hent j
  have lx : j < xs.length := by simpa using h2
  rw [Array.getElem?_eq_getElem lt, List.getElem?_eq_getElem lx] at at_
  rw [e, Option.some.inj at_, List.getElem_map]
  rfl
section
variable {X : Cx} {e : Expr} {te : TE} {p pos apos cpos : Pos}
end
end DV

end sec_DV
section sec_FD21
set_option maxRecDepth 100000
set_option maxHeartbeats 5000000
/-! FD21: dict comprehensions with tuple keys, list(d.values()), len(d). -/
namespace FD
open PySem L2
variable [Tabl]
def dcTurn (asg : D → M Unit) (test : M Bool) (fk fv : M RV) (d : D) (acc : List (D × D)) : M (List (D × D)) := bindM (asg d) fun _ => bindM test fun b => if b then bindM fk fun r1 => bindM fv fun r2 => bindM (escR r2) fun z => fun ρ w => (match peek ρ r1 with
  | some kd => (match keyT kd with
    | some ks => some (putT acc ks z, ρ, w)
    | none => none)
  | none => none) else pureM acc
section
variable {c : Ct} {F : Fm} {σ : L2.St} {H : Hp} {Q : VK}
end
section
variable {X : Cx} {kx vx tg iter o : Expr} {ifs : List Expr} {scope : Scope} {own : List (Str × Nat)} {pos p apos cpos : Pos} {fi : M (List D)} {js : List Nat} {g : D → M Unit} {tt : M Bool} {fk fv fo : M RV} {k : Nat}
/-! ### list(d.values()) -/
def valsM (fo : M RV) : M RV := bindM fo fun r => fun ρ w => match peek ρ r with
  | some d => (match pairsD d with
    | some ps => some (.fr (.lst (ps.map (·.2))), ρ, w)
    | none => none)
  | none => none
end
end FD

end sec_FD21
section sec_FD22
set_option maxRecDepth 100000
set_option maxHeartbeats 5000000
/-! FD22: len of a dict, sum and max of a list, list * int, x.index(y) of texts. -/
namespace FD
open PySem L2
variable [Tabl]
section
variable {X : Cx}
def top : List Int → Int
  | [] => 0
  | [a] => a
  | a :: b :: r => if a < top (b :: r) then top (b :: r) else a
/-! ### xs * n -/
def repD : D → D → Option RV
  | .lst ds, .int n => if n ≤ 1000 ∧ -1000 ≤ n ∧ ds.length ≤ 1000 then some (.fr (.lst (List.replicate n.toNat ds).flatten)) else none
  | _, _ => none
theorem RepAll.rep {c : Ct} {da : Option Addr} {G : Hp} {vs : List V} {ds : List D} (h : RepAll c da G vs ds) : ∀ n : Nat, RepAll c da G (List.replicate n vs).flatten (List.replicate n ds).flatten
  | 0 => .nil
  | n + 1 => by
    rw [List.replicate_succ, List.replicate_succ, List.flatten_cons, List.flatten_cons]
    exact h.append (RepAll.rep h n)
theorem opD_rep : OpR X (binaryOp .Mult) (rP2 (ct X) repD) := by
  rintro pins s σ H x y v u Q I rx ry ⟨da, O, d1, d2, r, hO, p1, p2, eg, q⟩
  unfold repD at eg
  split at eg
  · split at eg
    · rename_i ds n hc
      cases eg
      obtain ⟨a, vs, rfl, at_, ra⟩ := p1.lst
      obtain rfl := p2.int
      have l := ra.length
      refine op_rep pins s σ H _ _ v u Q I rx ry ⟨a, n, vs, rfl, rfl, at_, by omega, by omega, ?_, fun p np => q _ _ (Ex.new np) (repN_lst np (RepAll.rep ra _))⟩
      have : vs.length * n.toNat ≤ 1000 * 1000 := Nat.mul_le_mul (by omega) (by omega)
      exact small_fits this
    · cases eg
  · cases eg
/-! ### x.index(y) -/
end
end FD

end sec_FD22
section sec_FD23
set_option maxRecDepth 100000
set_option maxHeartbeats 5000000
/-! FD23: (*a, *b). -/
namespace FD
open PySem L2
variable [Tabl]
section
variable {X : Cx} {a b : Expr} {pos p p2 : Pos} {fa fb : M RV} {x1 : Nat}
def starM (fa fb : M RV) : M RV := bindM fa fun r1 => bindM (escR r1) fun d1 => bindM fb fun r2 => bindM (escR r2) fun d2 => fun ρ w => match seqD d1, seqD d2 with
  | some xs, some ys => if xs.length + ys.length ≤ 1000000 then some (.sh (.tup (xs ++ ys)), ρ, w) else none
  | _, _ => none
/-- a sequence, as it stands in the heap -/
theorem Rep.seq {c : Ct} {da : Option Addr} {O : List Addr} {H : Hp} {v : V} {d : D} {ds : List D} (h : Rep c da (vis O H) v d) (e : seqD d = some ds) : ∃ a vs, v = .ref a ∧ (SqT c.K H a vs ∨ SqL c.K H a vs) ∧ RepAll c da (vis O H) vs ds := by
  cases h with
  | lst s r =>
    cases e
    exact ⟨_, _, rfl, .inr (vis_ex.sl (SqL.of s)), r⟩
  | tup s r =>
    cases e
    exact ⟨_, _, rfl, .inl (.inl (.inl (vis_ex _ _ s))), r⟩
  | ktup s r =>
    cases e
    exact ⟨_, _, rfl, .inl (vis_ex.st s), r⟩
  | _ => cases e
end
end FD

end sec_FD23
section sec_FD24
set_option maxRecDepth 100000
set_option maxHeartbeats 5000000
/-! FD24: x[k] = v, x a slot's own list. -/
namespace FD
open PySem L2
variable [Tabl]
section
variable {X : Cx} {e e2 : Expr} {pos p pos' : Pos} {x : Str} {i : Nat} {fk fv : M RV}
end
end FD

end sec_FD24
section sec_FD25
set_option maxRecDepth 100000
set_option maxHeartbeats 5000000
/-! FD25: either of two operations; x in a list; x or y by truth; chains; own __len__, __getitem__, own operators. -/
namespace FD
open PySem L2
variable [Tabl]
section
variable {X : Cx} {a b e e2 c1 o : Expr} {rest : List Expr} {pos p p2 : Pos} {fa fb fc fe : M RV} {k j : Nat} {cn : Str}
/-! ### x or y, by truth: texts and numbers -/
def truD : D → Option Bool
  | .non => some false
  | .bl b => some b
  | .int i => some (i != 0)
  | .str y => if y.length ≤ 1000000 then some ((y.length : Int) != 0) else none
  | _ => none
def orVM (fa fb : M RV) : M RV := bindM fa fun r => match r with
  | .sh d => (match truD d with
    | some true => pureM (.sh d)
    | some false => fb
    | none => failM)
  | _ => failM
/-! ### a < b < c -/
def chM (g g' : D → D → Option RV) (fa fb fc : M RV) : M RV := bindM fa fun r1 => bindM fb fun r2 => bindM (lift2 g r1 r2) fun z => match z with
  | .sh (.bl true) => bindM fc fun r3 => lift2 g' r2 r3
  | .sh (.bl false) => pureM (.sh (.bl false))
  | _ => failM
/-! ### own special methods -/
/-- the class cn has the own special method nm -/
structure SpcD (P : Program) (w : World) (K : PySem.W.Frag) (mg : Str → Option Value) (base : Heap) (k : Nat) (cn nm : Str) (n : Nat) (den : List D → W → Option (RV × W)) : Prop where
  ex : ∃ (C f : Addr) (fd : FuncData) (ps : List Str), mg cn = some (.ref C) ∧ PySem.W.selfFirst K C = true ∧ PySem.W.findIn K (.ref C) nm = some (some (.ref f)) ∧ PySem.W.isFn K (.ref f) = true ∧ PySem.W.fnIn K f = true ∧ FnOk P w K mg base CX0 k f fd ps (spD ⟨K, mg⟩ n den) ∧ Binds K fd ps []
/-- an instance of cn that is given away -/
def insR (cn : Str) (r : RV) : M D := bindM (escR r) fun d => match d with
  | .ins c' gs => if c' = cn then pureM d else failM
  | _ => failM
/-- len(o) -/
def lenOM (cn : Str) (den : List D → W → Option (RV × W)) (fa : M RV) : M RV := bindM fa fun r => bindM (insR cn r) fun d => bindM (runD den [d]) fun z => match z with
  | .sh (.int n) => if 0 ≤ n ∧ n ≤ 1000000 then pureM (.sh (.int n)) else failM
  | _ => failM
end
end FD

end sec_FD25
section sec_FD26
set_option maxRecDepth 100000
set_option maxHeartbeats 5000000
/-! FD26: len(o), o[i], a op b by own special methods. -/
namespace FD
open PySem L2
variable [Tabl]
section
variable {X : Cx} {a b e e2 c1 o : Expr} {rest : List Expr} {pos p p2 : Pos} {fa fb fc fe : M RV} {k j : Nat} {cn : Str} {den : List D → W → Option (RV × W)}
/-! ### a op b -/
def opOM (cn : Str) (den : List D → W → Option (RV × W)) (fa fb : M RV) : M RV := bindM fa fun r1 => bindM fb fun r2 => bindM (insR cn r1) fun d1 => bindM (insR cn r2) fun d2 => runD den [d1, d2]
/-! ### o[i] -/
def ixOM (cn : Str) (den : List D → W → Option (RV × W)) (fa fb : M RV) : M RV := bindM fa fun r1 => bindM fb fun r2 => bindM (insR cn r1) fun d1 => bindM (escR r2) fun d2 => runD den [d1, d2]
end
end FD

end sec_FD26
section sec_FD27
set_option maxRecDepth 100000
set_option maxHeartbeats 5000000
/-! FD27: [elt for a in x if .. for b in y if ..]. -/
namespace FD
open PySem L2
variable [Tabl]
theorem wipeE_get {ρ : Env} {i : Nat} {s : Slot} : ∀ {vs : List Nat}, (wipeE ρ vs)[i]? = some (some s) → i ∉ vs ∧ ρ[i]? = some (some s)
  | [], h => ⟨by simp, h⟩
  | v :: vs, h => by
    unfold wipeE at h
    rcases getElem?_set_some h with ⟨rfl, z⟩ | ⟨n, h⟩
    · cases z
    · obtain ⟨m, q⟩ := wipeE_get h
      exact ⟨fun z => (List.mem_cons.mp z).elim (fun y => n y.symm) m, q⟩
/-- a list at Dl grows while expressions run: what stands between two of them -/
structure Grw (c : Ct) (F : Fm) (Dl : Addr) (G : Hp) (σ : L2.St) (O : List Addr) (ρ : Env) (w : W) (H : Hp) (acc : List V) (dacc : List D) : Prop where
  sr : SR c F O ρ w σ H
  mem : Dl ∈ O
  nu : NoSlot ρ σ Dl
  at_ : H Dl = some (.lst acc)
  rep : RepAll c F.dr.da (vis O H) acc dacc
  ex : Ex G (vis O H)
  nF : Dl ∉ F.O0
  n0 : F.H0 Dl = none
  drs : ∀ a ∈ F.dr.as, a ∈ F.O0
section
variable {c : Ct} {F : Fm} {Dl : Addr} {G : Hp} {σ σ' : L2.St} {O O' : List Addr} {ρ ρ' : Env} {w w' : W} {H H' : Hp} {acc : List V} {dacc : List D}
theorem Grw.wipe (g : Grw c F Dl G σ O ρ w H acc dacc) (vs : List Nat) : Grw c F Dl G (L2.wipe σ vs) O (wipeE ρ vs) w H acc dacc where
  sr := g.sr.wipe vs
  mem := g.mem
  nu := fun j e q z => by
    obtain ⟨m, q⟩ := wipeE_get q
    rw [wipe_out m] at z
    exact g.nu j e q z
  at_ := g.at_
  rep := g.rep
  ex := g.ex
  nF := g.nF
  n0 := g.n0
  drs := g.drs
theorem Grw.grow (g : Grw c F Dl G σ O ρ w H acc dacc) (x : Ex H H') : Grw c F Dl G σ O ρ w H' acc dacc where
  sr := g.sr.grow x
  mem := g.mem
  nu := g.nu
  at_ := x _ _ g.at_
  rep := g.rep.mono (vis_mono x)
  ex := g.ex.trans (vis_mono x)
  nF := g.nF
  n0 := g.n0
  drs := g.drs
theorem Grw.in (g : Grw c F Dl G σ O ρ w H acc dacc) : SR c (F.and Dl (.lst acc)) O ρ w σ H := hide_in g.sr g.mem g.nF g.nu g.at_
theorem Grw.out (g : Grw c F Dl G σ O ρ w H acc dacc) (S : SR c (F.and Dl (.lst acc)) O' ρ' w' σ' H') (x : Ex (vis O H) (vis O' H')) : Grw c F Dl G σ' O' ρ' w' H' acc dacc := by
  obtain ⟨S2, q2, m2, u2⟩ := S.out g.nF g.n0 g.drs
  exact ⟨S2, m2, u2, q2, g.rep.mono x, g.ex.trans x, g.nF, g.n0, g.drs⟩
end
section
variable {c : Ct} {F : Fm} {σ : L2.St} {H : Hp} {Q : VK}
end
section
variable {X : Cx} {elt tg iter tg1 iter1 : Expr} {ifs ifs1 : List Expr} {scope : Scope} {own : List (Str × Nat)} {vs1 : List Nat} {pos spos py : Pos} {fi fi1 : M (List D)} {js js1 : List Nat} {g g1 : D → M Unit} {tt tt1 : M Bool} {fe : M RV} {i : Nat} {y : Str}
end
end FD

end sec_FD27
section sec_FD28
set_option maxRecDepth 100000
set_option maxHeartbeats 5000000
/-! FD28: repr of plain values. -/
namespace FD
open PySem L2
variable [Tabl]
section
variable {X : Cx}
def reprS : List D → Option RV
  | [.non] => some (.sh (.str "None"))
  | [.bl b] => some (.sh (.str (if b then "True" else "False")))
  | [.int i] => if i.natAbs.log2 < 1920 then some (.sh (.str (toString i))) else none
  | [.str x] => if (reprText x).length ≤ 1000000 then some (.sh (.str (reprText x))) else none
  | _ => none
theorem bD_reprS : CallR X (.builtin "repr") (rPure (ct X) reprS) := by
  intro pins s σ H xs us Q I r h
  obtain ⟨da, O, ds, rv, hO, p, eg, q⟩ := h
  unfold reprS at eg
  split at eg
  · cases eg
    obtain ⟨v, rfl, P⟩ := p.one
    rw [P.non] at r
    cases r with
    | cons r1 rr =>
      cases rr
      cases r1
      exact PySem.P.repr_of_none ⟨.str _, H, I.tok _, ⟨_, rfl⟩, q _ _ (Ex.refl _) (.str _)⟩
  · cases eg
    obtain ⟨v, rfl, P⟩ := p.one
    rw [P.bl] at r
    cases r with
    | cons r1 rr =>
      cases rr
      cases r1
      exact PySem.P.repr_of_bool ⟨.str _, H, I.tok _, ⟨_, rfl⟩, q _ _ (Ex.refl _) (.str _)⟩
  · split at eg
    · rename_i hl
      cases eg
      obtain ⟨v, rfl, P⟩ := p.one
      rw [P.int] at r
      cases r with
      | cons r1 rr =>
        cases rr
        obtain ⟨t, rfl⟩ := r1
        exact PySem.P.repr_of_int hl ⟨.str _, H, I.tok _, ⟨_, rfl⟩, q _ _ (Ex.refl _) (.str _)⟩
    · cases eg
  · split at eg
    · rename_i hl
      cases eg
      obtain ⟨v, rfl, P⟩ := p.one
      rw [P.str] at r
      cases r with
      | cons r1 rr =>
        cases rr
        obtain ⟨t, rfl⟩ := r1
        exact PySem.P.repr_of_str ⟨.str _, H, I.tok _, ⟨_, rfl⟩, q _ _ (Ex.refl _) (.str _)⟩ (small_fits hl)
    · cases eg
  · cases eg
def orN (g1 g2 : List D → Option RV) (ds : List D) : Option RV := match g1 ds with
  | some r => some r
  | none => g2 ds
theorem bD_or {f : Value} {g1 g2 : List D → Option RV} (h1 : CallR X f (rPure (ct X) g1)) (h2 : CallR X f (rPure (ct X) g2)) : CallR X f (rPure (ct X) (orN g1 g2)) := by
  intro pins s σ H xs us Q I r h
  obtain ⟨da, O, ds, rv, hO, p, eg, q⟩ := h
  unfold orN at eg
  split at eg
  · rename_i e
    cases eg
    exact h1 pins s σ H xs us Q I r ⟨da, O, ds, _, hO, p, e, q⟩
  · exact h2 pins s σ H xs us Q I r ⟨da, O, ds, rv, hO, p, eg, q⟩
end
end FD

end sec_FD28
section sec_FD29
set_option maxRecDepth 100000
set_option maxHeartbeats 5000000
/-! FD29: a, b = x, y by a tuple that is taken apart (some of the names are cells): what is new stays new. -/
namespace FD
open PySem L2
variable [Tabl]
theorem Got.grow {c : Ct} {da : Option Addr} {O : List Addr} {H H' : Hp} (e : Ex H H') : ∀ {P : List Addr} {rs : List RV} {vs : List V}, Got c da O H P rs vs → Got c da O H' P rs vs
  | _, _, _, .nil => .nil
  | _, _, _, .sh h r => .sh (h.mono (vis_mono e)) (Got.grow e r)
  | _, _, _, .fr h1 h2 h3 h4 r => .fr h1 h2 (e _ _ h3) (h4.mono (vis_mono e)) (Got.grow e r)
section
variable {X : Cx} {e : Expr} {es ts : List Expr} {pos p pt pt2 : Pos} {x : Str} {i kt k2 : Nat} {is : List Nat} {fp : M (List RV)}
end
end FD

end sec_FD29
section sec_FD30
set_option maxRecDepth 100000
set_option maxHeartbeats 5000000
/-! FD30: o.m(k = e, ..), every parameter by its name, in order. -/
namespace FD
open PySem L2
variable [Tabl]
structure FK (X : Cx) (kws : List Keyword) (f : M (List RV)) : Prop where
  run : ∀ F, PK X kws (tA (ct X) F f)
  len : ∀ ρ w rs ρ' w', f ρ w = some (rs, ρ', w') → rs.length = kws.length
theorem PK.wk {X : Cx} {kws : List Keyword} {t t' : TA} (h : PK X kws t) (k : ∀ σ H Q, t' σ H Q → t σ H Q) : PK X kws t' := ⟨fun p pins s σ H Q I q => h.run p pins s σ H Q I (k σ H Q q)⟩
/-- a method whose parameters are given by name -/
structure MkwD (P : Program) (w : World) (K : PySem.W.Frag) (mg : Str → Option Value) (base : Heap) (k : Nat) (cn m : Str) (n : Nat) (ks : List Str) (den : List D → W → Option (RV × W)) : Prop where
  ex : ∃ (C f : Addr) (fd : FuncData) (ps : List Str), mg cn = some (.ref C) ∧ Cls K C ∧ Meth K C m f ∧ FnOk P w K mg base CX0 k f fd ps (spD ⟨K, mg⟩ n den) ∧
    ∀ (s : Shared) (self : Value) (ws : List Value), (self :: ws).length = ps.length → BindsTo s fd ⟨[self], ks.zip ws⟩ (ps.zip (self :: ws))
section
variable {X : Cx} {e o : Expr} {kws : List Keyword} {pos apos kpos : Pos} {m cn : Str} {nm : Option Str} {k j n : Nat} {ks : List Str} {den : List D → W → Option (RV × W)} {fa g : M (List RV)} {fo fe : M RV}
theorem fk_nil : FK X [] (pureM []) := ⟨fun F => PK.wk pk_nil fun σ H Q q => by
  obtain ⟨O, ρ, w, r, ρ', w', S, e, k⟩ := q
  cases e
  exact k [] O H S (Ex.refl _) .nil, fun ρ w rs ρ' w' h => by cases h; rfl⟩
theorem fk_cons (ha : FE X e fe) (hr : FK X kws g) : FK X (⟨nm, e, kpos⟩ :: kws) (consA fe g) := ⟨fun F => PK.wk (pk_cons (ha F) (hr.run F)) fun σ H Q q => by
  obtain ⟨O, ρ, w, r, ρ', w', S, e, k⟩ := q
  refine tE_then S e fun x O1 ρ1 w1 H1 r1 S1 e1 R1 h1 => ?_
  refine tA_then S1 h1 fun vs O2 ρ2 w2 H2 rs S2 e2 R2 _ h2 => ?_
  cases h2
  exact k (x :: vs) O2 H2 S2 (e1.trans e2) (.cons (R1.hold.mono e2) R2), fun ρ w rs ρ' w' h => by
    obtain ⟨r, ρ1, w1, _, h1⟩ := bindM_some h
    obtain ⟨rs', ρ2, w2, h2, h3⟩ := bindM_some h1
    cases h3
    simp [hr.len _ _ _ _ _ h2]⟩
end
end FD

end sec_FD30
section sec_FD31
set_option maxRecDepth 100000
set_option maxHeartbeats 5000000
/-! FD31: x.clear(), x.reverse(), e[::-1]. -/
namespace FD
open PySem L2
variable [Tabl]
section
variable {X : Cx} {e : Expr} {p apos cpos p1 p2 p3 pos : Pos} {x : Str} {i k : Nat} {fe : M RV}
end
end FD

end sec_FD31
section sec_FD32
set_option maxRecDepth 100000
set_option maxHeartbeats 5000000
/-! FD32: defs that are called where no repr is under way (repr of lists inside a def). -/
namespace FD
open PySem L2
open PyProof.Rows (envOfC)
variable [Tabl]
structure CalG (P : Program) (w : World) (K : PySem.W.Frag) (mg : Str → Option Value) (base : Heap) (k : Nat) (x : Str) (n : Nat) (den : List D → W → Option (RV × W)) : Prop where
  ex : ∃ (f : Addr) (fd : FuncData) (ps : List Str), LG.FnG P w K mg base k f fd ps (spD ⟨K, mg⟩ n den) ∧ mg x = some (.ref f) ∧ PySem.W.keepIn K (.ref f) = true ∧ Binds K fd ps []
section
variable {X : Cx} {k j n : Nat} {f : Addr} {fd : FuncData} {ps : List Str} {sp : Sp} {x : Str} {p pos : Pos} {e : Expr} {es : List Expr} {t : TA} {den : List D → W → Option (RV × W)} {fa : M (List RV)}
end
section
variable {P : Program} {w : World} {K : PySem.W.Frag} {mg : Str → Option Value} {base : Heap}
end
end FD

end sec_FD32
section sec_FD33
set_option maxRecDepth 100000
set_option maxHeartbeats 5000000
/-! FD33: repr of small dicts. -/
namespace FD
open PySem L2
variable [Tabl]
section
variable {X : Cx} {pins : List (Addr × PySem.Obj)} {σ : L2.St} {H : Hp} {s : Shared}
theorem keyStr {x : Str} {v : Value} (h : keyIs (.inr x) v = true) : ∃ t, v = .str x t := by
  rcases keyIs_shape h with ⟨i, t, e, _⟩ | ⟨y, t, e, rfl⟩
  · cases e
  · cases e
    exact ⟨t, rfl⟩
theorem dic_reads {a : Addr} {kvs : List (Key × V)} (I : Inv X pins σ H s) (e : H a = some (.dK kvs)) : (kvs = [] → ∃ as, Reads s.heap (.ref a) (.dict []) as ∧ sysModules ∉ as) ∧ ∀ x i, kvs = [(.inr x, .int i)] → ∃ as, Reads s.heap (.ref a) (.dict [(.str x, .int i)]) as ∧ sysModules ∉ as := by
  obtain ⟨_, ns, vs, kv, o, es, ep, ho, hx, hd, _, pr, _⟩ := dk_of I.hok e
  have ne : sysModules ≠ a := fun z => by
    rw [← z] at ns
    simp at ns
  constructor
  · rintro rfl
    cases kv
    generalize hl : es.toList = l at pr
    cases pr
    exact ⟨_, .dict (kvs := []) ho hx.1 hd (by rw [hl]; exact .nil) (by rw [hl]; exact .nil), by simpa using ne⟩
  · rintro x i rfl
    cases kv with
    | cons q1 q2 =>
      cases q2
      generalize hl : es.toList = l at pr
      cases pr with
      | cons k1 k2 k3 =>
        cases k3
        rename_i bb nd en
        obtain ⟨bk, bv⟩ := bb
        obtain ⟨j1, u, j2⟩ := q1
        have j1' : (Sum.inr x : Key) = bk := j1
        subst j1'
        obtain ⟨t, ek⟩ := keyStr (x := x) (v := en.key) k1
        have ev : en.val = .int i u := k2.trans j2
        have r1 : Reads s.heap en.key (.str x) [] := by
          rw [ek]
          exact .str x t
        have r2 : Reads s.heap en.val (.int i) [] := by
          rw [ev]
          exact .int i u
        exact ⟨_, .dict (kvs := [(.str x, .int i)]) (as := [] ++ []) (bs := [] ++ []) ho hx.1 hd (by rw [hl]; exact .cons r1 .nil) (by rw [hl]; exact .cons r2 .nil), by simpa using ne⟩
end
end FD

end sec_FD33
section sec_FD34
set_option maxRecDepth 100000
set_option maxHeartbeats 5000000
/-! FD34: repr([e, ..]), whose items stay with their owners. -/
namespace FD
open PySem L2
variable [Tabl]
section
variable {X : Cx} {es : List Expr} {p p2 pos : Pos} {fa : M (List RV)} {k : Nat}
end
end FD

end sec_FD34
section sec_FD35
set_option maxRecDepth 100000
set_option maxHeartbeats 5000000
/-! FD35: lists and tuples of flat items: x in y, l.count(x), l.index(x). -/
namespace FD
open PySem L2
variable [Tabl]
def vOf : D → Option V
  | .non => some .non
  | .bl b => some (.bl b)
  | .int i => some (.int i)
  | .str x => some (.str x)
  | _ => none
def vsOf : List D → Option (List V)
  | [] => some []
  | d :: r => match vOf d, vsOf r with
    | some v, some vs => some (v :: vs)
    | _, _ => none
theorem vOf_flat {d : D} {v : V} (h : vOf d = some v) : flatV v = true := by
  cases d <;> cases h <;> rfl
theorem Rep.vOf {c : Ct} {da : Option Addr} {G : Hp} {v u : V} {d : D} (r : Rep c da G v d) (h : FD.vOf d = some u) : v = u := by
  cases d <;> cases h <;> cases r <;> rfl
theorem RepP.vOf {c : Ct} {da : Option Addr} {O : List Addr} {H : Hp} {v u : V} {d : D} (r : RepP c da O H v d) (h : FD.vOf d = some u) : v = u := by
  rcases r with r | ⟨a, o, rfl, e, b⟩
  · exact r.vOf h
  · rcases b with ⟨_, _, _, rfl, _⟩ | ⟨_, _, _, rfl, _⟩ | ⟨_, _, _, rfl, _⟩ | ⟨_, _, _, _, _, _, rfl, _⟩ <;> cases h
theorem RepAll.vsOf {c : Ct} {da : Option Addr} {G : Hp} : ∀ {vs us : List V} {ds : List D}, RepAll c da G vs ds → FD.vsOf ds = some us → vs = us ∧ us.all flatV = true
  | _, _, _, .nil, h => by cases h; exact ⟨rfl, rfl⟩
  | _, us, _, .cons (d := d) (ds := ds) r t, h => by
    unfold FD.vsOf at h
    cases e1 : FD.vOf d with
    | none =>
      rw [e1] at h
      cases h
    | some v =>
      cases e2 : FD.vsOf ds with
      | none =>
        rw [e1, e2] at h
        cases h
      | some vs =>
        rw [e1, e2] at h
        cases h
        obtain ⟨h1, h2⟩ := RepAll.vsOf t e2
        rw [h1, r.vOf e1]
        exact ⟨rfl, by rw [List.all_cons, vOf_flat e1, h2]; rfl⟩
def itemsOf : D → Option (List D)
  | .lst ds => some ds
  | .tup ds => some ds
  | .ktup ds => some ds
  | _ => none
def inF (no : Bool) (x y : D) : Option RV := match vOf x, itemsOf y with
  | some v, some ds => (match vsOf ds with
    | some vs => some (.sh (.bl (if no then !inV v vs else inV v vs)))
    | none => none)
  | _, _ => none
section
variable {X : Cx}
theorem inF_read {no : Bool} {x y : V} {H : Hp} {Q : VK} (h : rP2 (ct X) (inF no) x y H Q) : rIn X.K no x y H Q := by
  obtain ⟨da, O, d1, d2, r, hO, p1, p2, eg, q⟩ := h
  unfold inF at eg
  split at eg
  · rename_i v ds e1 e2
    split at eg
    · rename_i vs e3
      cases eg
      have ex := p1.vOf e1
      subst ex
      have fx := vOf_flat e1
      have key : ∃ p xs, y = .ref p ∧ (SqL X.K H p xs ∨ SqT X.K H p xs) ∧ RepAll (ct X) da (vis O H) xs ds := by
        cases d2 with
        | lst es =>
          cases e2
          obtain ⟨a, xs, h1, h2, h3⟩ := p2.lst
          exact ⟨a, xs, h1, .inl (.inl (.inl h2)), h3⟩
        | tup es =>
          cases e2
          obtain ⟨a, xs, h1, h2, h3, _⟩ := p2.tup
          exact ⟨a, xs, h1, .inr h2, h3⟩
        | ktup es =>
          cases e2
          obtain ⟨a, xs, h1, h2, h3, _⟩ := p2.ktup
          exact ⟨a, xs, h1, .inr h2, h3⟩
        | _ => cases e2
      obtain ⟨p, xs, h1, h2, h3⟩ := key
      obtain ⟨rfl, fl⟩ := h3.vsOf e3
      exact ⟨p, xs, h1, h2, fx, fl, q _ _ (Ex.refl _) (.bl _)⟩
    · cases eg
  · cases eg
theorem opD_notInF : OpR X (compareOp .NotIn) (rP2 (ct X) (inF true)) := fun pins s σ H x y v u Q I rx ry h => op_notIn_seq pins s σ H x y v u Q I rx ry (inF_read h)
variable {o e : Expr} {fo fe : M RV} {apos cpos : Pos} {name : Str} {id : String} {rr : V → List V → Hp → VK → Prop} {g : D → D → Option RV}
end
end FD

end sec_FD35
section sec_FD36
set_option maxRecDepth 100000
set_option maxHeartbeats 5000000
/-! FD36: f(.., x, ..) where x is an owned list that f only reads: what comes out holds tuples and flat values alone, x stays owned. -/
namespace FD
open PySem L2
variable [Tabl]
mutual
def ptD : D → Bool
  | .non => true
  | .bl _ => true
  | .int _ => true
  | .str _ => true
  | .tup ds => ptDs ds
  | _ => false
def ptDs : List D → Bool
  | [] => true
  | d :: r => ptD d && ptDs r
end
section
variable {c : Ct} {da : Option Addr} {O0 O : List Addr} {H : Hp}
mutual
theorem Rep.pt (n : ∀ b xs, H b = some (.tup xs) → b ∉ O) : ∀ {v : V} {d : D}, Rep c da (vis O0 H) v d → ptD d = true → Rep c da (vis O H) v d
  | _, _, .non, _ => .non
  | _, _, .bl b, _ => .bl b
  | _, _, .int i, _ => .int i
  | _, _, .str x, _ => .str x
  | _, _, .tup e r, l => .tup (by rw [vis_out (n _ _ (vis_some e).2)]; exact (vis_some e).2) (RepAll.pt n r (by simpa [ptD] using l))
  | _, _, .ty _, l => by simp [ptD] at l
  | _, _, .draw _, l => by simp [ptD] at l
  | _, _, .ktup _ _, l => by simp [ptD] at l
  | _, _, .lst _ _, l => by simp [ptD] at l
  | _, _, .scr _, l => by simp [ptD] at l
  | _, _, .dK _ _, l => by simp [ptD] at l
  | _, _, .dT _ _, l => by simp [ptD] at l
  | _, _, .fdT _ _, l => by simp [ptD] at l
  | _, _, .exc _ _ _ _, l => by simp [ptD] at l
  | _, _, .exo _ _, l => by simp [ptD] at l
  | _, _, .ins _ _ _, l => by simp [ptD] at l
  | _, _, .lam _ _ _ _ _, l => by simp [ptD] at l
theorem RepAll.pt (n : ∀ b xs, H b = some (.tup xs) → b ∉ O) : ∀ {v : List V} {d : List D}, RepAll c da (vis O0 H) v d → ptDs d = true → RepAll c da (vis O H) v d
  | _, _, .nil, _ => .nil
  | _, _, .cons a r, l => by
    simp only [ptDs, Bool.and_eq_true] at l
    exact .cons (Rep.pt n a l.1) (RepAll.pt n r l.2)
end
end
section
variable {c : Ct} {F : Fm} {O : List Addr} {ρ : Env} {w : W} {σ : L2.St} {H : Hp}
end
section
variable {X : Cx} {e : Expr} {es : List Expr} {pos p : Pos} {x : Str} {k j n : Nat} {den : List D → W → Option (RV × W)} {fa : M (List RV)}
end
end FD

end sec_FD36
section sec_FD37
set_option maxRecDepth 100000
set_option maxHeartbeats 5000000
/-! FD37: sorted(list) of plain data of one shape (lists or tuples of numbers and texts). -/
namespace FD
open PySem PySem.Spec PyProof.Rows L2 PySem.W
variable [Tabl]
section
variable {X : Cx}
end
end FD

end sec_FD37
section sec_FD38
set_option maxRecDepth 100000
set_option maxHeartbeats 5000000
/-! FD38: a, b = list. -/
namespace FD
open PySem L2
variable [Tabl]
section
variable {X : Cx} {es : List Expr} {pos : Pos} {js : List Nat}
end
end FD

end sec_FD38
section sec_FD39
set_option maxRecDepth 100000
set_option maxHeartbeats 5000000
/-! FD39: defs that call themselves. -/
namespace FD
open PySem L2
variable [Tabl]
section
variable {P : Program} {w : World} {K : PySem.W.Frag} {mg : Str → Option Value} {base : Heap}
end
end FD

end sec_FD39
section sec_FD40
set_option maxRecDepth 100000
set_option maxHeartbeats 5000000
/-! FD40: tuples turned about. -/
namespace FD
open PySem PySem.Spec PyProof.Rows L2
section
variable {prog : Program} {w : World} {A : Around} {E : Value → Shared → Prop} {s : Shared}
end
section
variable {X : Cx} {e : Expr} {te : TE} {k : Nat} {p1 p2 p3 pos : Pos}
variable [Tabl] {fe : M RV}
end
end FD

end sec_FD40
section sec_FD41
set_option maxRecDepth 100000
set_option maxHeartbeats 5000000
/-! FD41: an own list that is only lent while an expression is reckoned. -/
namespace FD
open PySem L2
variable [Tabl]
end FD

end sec_FD41
section sec_FD42
set_option maxRecDepth 100000
set_option maxHeartbeats 5000000
/-! FD42: k in d, for dicts whose keys are tuples of numbers and texts. -/
namespace FD
open PySem L2
variable [Tabl]
section
variable {X : Cx} {a b : Expr} {pos : Pos} {fa fb : M RV} {k : Nat}
end
end FD

end sec_FD42
section sec_SM
set_option maxRecDepth 100000
set_option maxHeartbeats 5000000
/-! SM: the place of sys.modules is never one of ours; repr of lists and tuples that hold small dicts. -/
namespace FD
open PySem L2
variable [Tabl]
abbrev SmB (base : Heap) : Prop := LG.SmAt base
mutual
inductive Dq (K : PySem.W.Frag) (H : Hp) : V → PyData → Prop
  | plain {v : V} {d : PyData} : Dp K H v d → Dq K H v d
  | dic0 {a : Addr} : H a = some (.dK []) → Dq K H (.ref a) (.dict [])
  | dic1 {a : Addr} {x : Str} {i : Int} : H a = some (.dK [(.inr x, .int i)]) → Dq K H (.ref a) (.dict [(.str x, .int i)])
  | lst {a : Addr} {xs : List V} {ds : List PyData} : SqL K H a xs → DqAll K H xs ds → Dq K H (.ref a) (.list ds)
  | tup {a : Addr} {xs : List V} {ds : List PyData} : SqT K H a xs → DqAll K H xs ds → Dq K H (.ref a) (.tuple ds)
inductive DqAll (K : PySem.W.Frag) (H : Hp) : List V → List PyData → Prop
  | nil : DqAll K H [] []
  | cons {v : V} {vs : List V} {d : PyData} {ds : List PyData} : Dq K H v d → DqAll K H vs ds → DqAll K H (v :: vs) (d :: ds)
end
section
variable {X : Cx} {pins : List (Addr × PySem.Obj)} {σ : L2.St} {H : Hp} {s : Shared}
/-- no list of ours stands there -/
theorem sm_list_ne (S : SmB X.base) (I : Inv X pins σ H s) {a : Addr} {o : PySem.Obj} {vs : Array Value} {n : Nat} (e : s.heap.get? a = some o) (d : o.data = .seq vs n) : sysModules ≠ a := fun z => by
  obtain ⟨u, es, ep, h1, h2⟩ := S
  have h3 := I.bk _ _ h1
  rw [z, e] at h3
  cases h3
  rw [d] at h2
  cases h2
/-- data without dicts keeps clear of it, too -/
theorem plain_reads (S : SmB X.base) (I : Inv X pins σ H s) : ∀ {u : Value} {d : PyData} {as : List Addr}, Reads s.heap u d as → d.hasDict = false → sysModules ∉ as := by
  intro u d as r
  exact Reads.rec (motive_1 := fun u d as _ => d.hasDict = false → sysModules ∉ as) (motive_2 := fun us ds as _ => PyData.hasDictAll ds = false → sysModules ∉ as)
    (fun _ => List.not_mem_nil) (fun _ _ => List.not_mem_nil) (fun _ _ _ => List.not_mem_nil) (fun _ _ _ => List.not_mem_nil)
    (fun e _ d _ ih h m => by
      rcases List.mem_cons.mp m with z | z
      · exact sm_list_ne S I e d z
      · exact ih (by simpa [PyData.hasDict] using h) z)
    (fun e _ d _ ih h => ih (by simpa [PyData.hasDict] using h))
    (fun e _ d _ _ _ _ h => by simp [PyData.hasDict] at h)
    (fun _ => List.not_mem_nil)
    (fun _ _ i1 i2 h m => by
      rw [PyData.hasDictAll, Bool.or_eq_false_iff] at h
      rcases List.mem_append.mp m with z | z
      · exact i1 h.1 z
      · exact i2 h.2 z) r
theorem hasDict_dp {K : PySem.W.Frag} : ∀ {v : V} {d : PyData}, Dp K H v d → d.hasDict = false := by
  intro v d h
  exact Dp.rec (motive_1 := fun _ d _ => d.hasDict = false) (motive_2 := fun _ ds _ => PyData.hasDictAll ds = false)
    (by simp [PyData.hasDict]) (fun _ => by simp [PyData.hasDict]) (fun _ => by simp [PyData.hasDict]) (fun _ => by simp [PyData.hasDict])
    (fun _ _ ih => by simpa [PyData.hasDict] using ih) (fun _ _ ih => by simpa [PyData.hasDict] using ih) (by simp [PyData.hasDictAll]) (fun _ _ i1 i2 => by simp [PyData.hasDictAll, i1, i2]) h
mutual
theorem Dq.reads (S : SmB X.base) (I : Inv X pins σ H s) : ∀ {v : V} {d : PyData}, Dq X.K H v d → ∀ {u : Value}, RelV v u → ∃ as, Reads s.heap u d as ∧ sysModules ∉ as
  | _, _, .plain h, _, r => by
    obtain ⟨as, q⟩ := Dp.reads I _ _ _ h r
    exact ⟨as, q, plain_reads S I q (hasDict_dp h)⟩
  | _, _, .dic0 h, _, r => by
    cases r
    exact (dic_reads I h).1 rfl
  | _, _, .dic1 h, _, r => by
    cases r
    exact (dic_reads I h).2 _ _ rfl
  | _, _, .lst hs ha, _, r => by
    cases r
    obtain ⟨zs, vz, ⟨ob, m, at1, c1, _, d1⟩, _⟩ := I.list hs
    obtain ⟨as, hr, ns⟩ := DqAll.reads S I ha vz
    refine ⟨_, Reads.list at1 c1 d1 hr, fun m => ?_⟩
    rcases List.mem_cons.mp m with z | z
    · exact sm_list_ne S I at1 d1 z
    · exact ns z
  | _, _, .tup hs ha, _, r => by
    cases r
    obtain ⟨zs, vz, ⟨ob, at1, c1, m, d1⟩, _⟩ := I.tuple hs
    obtain ⟨as, hr, ns⟩ := DqAll.reads S I ha vz
    exact ⟨_, Reads.tuple at1 c1 d1 hr, ns⟩
theorem DqAll.reads (S : SmB X.base) (I : Inv X pins σ H s) : ∀ {vs : List V} {ds : List PyData}, DqAll X.K H vs ds → ∀ {us : List Value}, Vals vs us → ∃ as, ReadsAll s.heap us ds as ∧ sysModules ∉ as
  | _, _, .nil, _, r => by
    cases r
    exact ⟨_, ReadsAll.nil, List.not_mem_nil⟩
  | _, _, .cons h1 h2, _, r => by
    cases r with
    | cons r1 r2 =>
      obtain ⟨as, q1, n1⟩ := Dq.reads S I h1 r1
      obtain ⟨bs, q2, n2⟩ := DqAll.reads S I h2 r2
      exact ⟨_, ReadsAll.cons q1 q2, fun m => (List.mem_append.mp m).elim n1 n2⟩
end
end
/-! ### data with small dicts -/
def dicPy : List (D × D) → Option PyData
  | [] => some (.dict [])
  | [(.str x, .int i)] => some (.dict [(.str x, .int i)])
  | _ => none
mutual
def toPyK : D → Option PyData
  | .non => some .none
  | .bl b => some (.bool b)
  | .int i => some (.int i)
  | .str x => some (.str x)
  | .tup ds => (toPysK ds).map .tuple
  | .ktup ds => (toPysK ds).map .tuple
  | .lst ds => (toPysK ds).map .list
  | .dic ps => dicPy ps
  | _ => none
def toPysK : List D → Option (List PyData)
  | [] => some []
  | d :: r => match toPyK d with
    | some p => (toPysK r).map (p :: ·)
    | none => none
end
theorem dicPy_dq {c : Ct} {da : Option Addr} {G H : Hp} {a : Addr} {kvs : List (Key × V)} {ps : List (D × D)} {p : PyData} (e : dicPy ps = some p) (h : H a = some (.dK kvs)) (r : RepKV c da G kvs ps) : Dq c.K H (.ref a) p := by
  unfold dicPy at e
  split at e
  · cases e
    cases r
    exact .dic0 h
  · rename_i x i
    cases e
    generalize hd : (D.str x) = dx at r
    cases r with
    | cons r1 r2 =>
      cases r2
      cases r1
      rename_i k
      match k, hd with
      | .inr y, hd =>
        cases hd
        exact .dic1 h
  · cases e
section
variable {c : Ct} {da : Option Addr} {G H : Hp}
mutual
theorem Rep.dq (x : Ex G H) : ∀ {v : V} {d : D} {p : PyData}, Rep c da G v d → toPyK d = some p → Dq c.K H v p
  | _, _, _, .non, e => by cases e; exact .plain .non
  | _, _, _, .bl b, e => by cases e; exact .plain (.bl b)
  | _, _, _, .int i, e => by cases e; exact .plain (.int i)
  | _, _, _, .str y, e => by cases e; exact .plain (.str y)
  | _, _, _, .ty n, e => by cases e
  | _, _, _, .draw h, e => by cases e
  | _, .tup ds, _, .tup s r, e => by
    simp only [toPyK] at e
    obtain ⟨ps, q, rfl⟩ := Option.map_eq_some_iff.mp e
    exact .tup (.inl (.inl (x _ _ s))) (RepAll.dq x r q)
  | _, .ktup ds, _, .ktup s r, e => by
    simp only [toPyK] at e
    obtain ⟨ps, q, rfl⟩ := Option.map_eq_some_iff.mp e
    exact .tup (x.st s) (RepAll.dq x r q)
  | _, .lst ds, _, .lst s r, e => by
    simp only [toPyK] at e
    obtain ⟨ps, q, rfl⟩ := Option.map_eq_some_iff.mp e
    exact .lst (.inl (.inl (x _ _ s))) (RepAll.dq x r q)
  | _, _, _, .scr s, e => by cases e
  | _, .dic ps, _, .dK s r, e => by
    simp only [toPyK] at e
    exact dicPy_dq e (x _ _ s) r
  | _, _, _, .dT s r, e => by cases e
  | _, _, _, .fdT s r, e => by cases e
  | _, _, _, .exc s s2 m r, e => by cases e
  | _, _, _, .exo s m, e => by cases e
  | _, _, _, .ins s m r, e => by cases e
  | _, .lam i ds, _, .lam t s s2 k r, e => by
    simp only [toPyK] at e
    cases e
theorem RepAll.dq (x : Ex G H) : ∀ {vs : List V} {ds : List D} {ps : List PyData}, RepAll c da G vs ds → toPysK ds = some ps → DqAll c.K H vs ps
  | _, _, _, .nil, e => by
    simp only [toPysK] at e
    cases e
    exact .nil
  | _, d :: ds, _, .cons h r, e => by
    simp only [toPysK] at e
    cases q : toPyK d with
    | none =>
      rw [q] at e
      cases e
    | some p =>
      rw [q] at e
      obtain ⟨ps, q2, rfl⟩ := Option.map_eq_some_iff.mp e
      exact .cons (Rep.dq x h q) (RepAll.dq x r q2)
end
theorem RepP.dq {O : List Addr} {v : V} {d : D} {p : PyData} (h : RepP c da O H v d) (e : toPyK d = some p) : Dq c.K H v p := by
  rcases h with h | ⟨a, o, rfl, ha, ob⟩
  · exact h.dq vis_ex e
  · rcases ob with ⟨xs, ds, rfl, rfl, r⟩ | ⟨kvs, ps, rfl, rfl, r⟩ | ⟨_, _, _, rfl, _⟩ | ⟨_, _, _, _, _, _, rfl, _⟩
    · simp only [toPyK] at e
      obtain ⟨ps, q, rfl⟩ := Option.map_eq_some_iff.mp e
      exact .lst (.inl (.inl ha)) (r.dq vis_ex q)
    · simp only [toPyK] at e
      exact dicPy_dq e ha r
    · cases e
    · cases e
end
/-! ### repr -/
def shwDK (d : D) : Option RV := match toPyK d with
  | some p => if p.showable = true ∧ p.depth ≤ 60 ∧ p.shown.length ≤ 1000000 then some (.sh (.str p.shown)) else none
  | none => none
def reprQ : List D → Option RV
  | [.lst xs] => shwDK (.lst xs)
  | [.tup xs] => shwDK (.tup xs)
  | [.dic ps] => shwDK (.dic ps)
  | _ => none
section
variable {X : Cx} {k : Nat}
theorem cr_reprDq (hS : SmB X.base) (hr : Room k X.A) (hG : X.A.guards = some []) : CallR X (.builtin "repr") (fun xs H Q => ∃ a py, xs = [.ref a] ∧ Dq X.K H (.ref a) py ∧ (py.showable = true ∧ py.depth ≤ 60 ∧ py.shown.length ≤ 1000000) ∧ Q (.str py.shown) H) := by
  intro pins s σ H xs us Q I r h
  obtain ⟨a, py, rfl, dp, hc, q⟩ := h
  obtain ⟨as, rd, ns⟩ := Dq.reads hS I dp (show RelV (.ref a) (.ref a) from rfl)
  rw [Vals.ref1 r]
  have hun := hr.units
  exact repr_of_reads' rd hc.1 (fun _ => ns) hG (by omega) (fun _ _ e => e) (fun h' u tk hk => ⟨.str _, H, I.kept (t' := tk) hk, ⟨u, rfl⟩, q⟩) (small_fits hc.2.2)
theorem bD_reprQ (hS : SmB X.base) (hr : Room k X.A) (hG : X.A.guards = some []) : CallR X (.builtin "repr") (rPure (ct X) reprQ) := by
  intro pins s σ H xs us Q I r h
  obtain ⟨da, O, ds, rv, hO, p, eg, q⟩ := h
  have core : ∀ d, shwDK d = some rv → (∀ v, RepP (ct X) da O H v d → ∃ a, v = .ref a) → ds = [d] → wpAny (model X.prog X.w) X.A (call (.builtin "repr") us) (EP X pins σ Q) X.xe s := fun d e0 hv ed => by
    subst ed
    obtain ⟨v, rfl, P⟩ := p.one
    obtain ⟨a, rfl⟩ := hv v P
    unfold shwDK at e0
    split at e0
    · rename_i py e
      split at e0
      · rename_i hc
        cases e0
        exact cr_reprDq hS hr hG pins s σ H _ us Q I r ⟨a, py, rfl, P.dq e, hc, q _ _ (Ex.refl _) (.str _)⟩
      · cases e0
    · cases e0
  unfold reprQ at eg
  split at eg
  · exact core _ eg (fun v P => let ⟨a, _, e, _⟩ := P.lst; ⟨a, e⟩) rfl
  · exact core _ eg (fun v P => let ⟨a, _, e, _⟩ := P.tup; ⟨a, e⟩) rfl
  · exact core _ eg (fun v P => let ⟨a, _, e, _⟩ := P.dic; ⟨a, e⟩) rfl
  · cases eg
theorem bD_reprW (hS : SmB X.base) (hr : Room k X.A) (hG : X.A.guards = some []) : CallR X (.builtin "repr") (rPure (ct X) (orN reprS reprQ)) := bD_or bD_reprS (bD_reprQ hS hr hG)
variable {es : List Expr} {p p2 pos : Pos} {fa : M (List RV)}
end
end FD

end sec_SM
section sec_XK
set_option maxRecDepth 100000
set_option maxHeartbeats 2000000
/-! XK: C(k = v) for an own exception class C: the object is made without looking at the keyword, then its own __init__ runs with it. -/
namespace XK
open PySem Builtin HandSPX PySem.W
/-- at C stands an own exception class over B, whose line is bmB -/
def Own (h : Heap) (C : Addr) (bmB : List Value) (mk : String) : Prop :=
  ∃ (n1 n2 : Str) (N : Addr) (l1 l2 : List Value) (b1 : Bool) (l3 : List Str) (l4 : List Value) (b2 : Bool) (o1 : Option Bool) (o2 : Option Addr) (o3 o4 o5 o6 o7 : Option Value),
    h.get? C = some (excClassObj n1 n2 C N l1 l2 b1 l3 l4 b2 o1 o2 o3 o4 o5 o6 o7 mk) ∧ ∀ T : String, l2.contains (.type T) = bmB.contains (.type T)
theorem Own.keep {h h2 : Heap} {C : Addr} {l : List Value} {mk : String} (o : Own h C l mk) (k : ∀ b u, h.get? b = some u → h2.get? b = some u) : Own h2 C l mk := by
  obtain ⟨n1, n2, N, l1, l2, b1, l3, l4, b2, o1, o2, o3, o4, o5, o6, o7, e, t⟩ := o
  exact ⟨n1, n2, N, l1, l2, b1, l3, l4, b2, o1, o2, o3, o4, o5, o6, o7, k _ _ e, t⟩
section
variable {h : Heap} {g : Array GenState} {d : Drawn} {t : Nat} {os : OsState}
variable {prog : Program} {w : World} {A : Around} {R : Result → Shared → Prop} {E : Value → Shared → Prop}
variable {key : Str} {val : Value} {C fI : Addr} {lB : List Value} {B mk ini : String}
abbrev kwA (C : Addr) (key : Str) (val : Value) : Args := ⟨[.ref C], [(key, val)]⟩
theorem checkN (F : ExcBaseFacts B mk ini lB) (o : Own h C lB mk) {Q : Unit → Shared → Prop} (go : Q () ⟨h, g, d, t, os⟩) : wpAny (model prog w) A (checkBuiltinCall mk (kwA C key val)) Q E ⟨h, g, d, t, os⟩ := by
  obtain ⟨n1, n2, N, l1, l2, b1, l3, l4, b2, o1, o2, o3, o4, o5, o6, o7, at1, line⟩ := o
  have c1 : (Value.ref C :: l2).contains (.type B) = true := by simp only [List.contains_cons, line, F.hasB, Bool.or_true]
  have st := F.noStar
  simp only [checkBuiltinCall, F.newKind, F.newSplit, F.newRow, kwA]
  repeat first
    | refine wpAny_loadPart_at at1 ?_
    | (refine wpAny_isSubtype_exc at1 ?_
       rw [c1])
    | refine wpAny_staticBase_exc at1 ?_
    | refine wpAny_madeBy_exc at1 ?_
    | simp only [bne_self_eq_false, Bool.false_eq_true, if_false]
    | wp_step
  exact go
abbrev made (h : Heap) (C : Addr) : Heap := (h.push (kdv_tup [])).push (excO C h.objs.size)
theorem made_at : (made h C).get? (h.objs.size + 1) = some (excO C h.objs.size) := by heap_get
theorem newN (F : ExcBaseFacts B mk ini lB) (o : Own h C lB mk) (go : R (.ok (.ret (.ref (h.objs.size + 1)))) ⟨made h C, g, d, t, os⟩) : codeAny (model prog w) A (.builtin mk (kwA C key val)) R ⟨h, g, d, t, os⟩ := by
  obtain ⟨n1, n2, N, l1, l2, b1, l3, l4, b2, o1, o2, o3, o4, o5, o6, o7, at1, line⟩ := o
  have ends := F.ends
  have c1 : (Value.ref C :: l2).contains (.type B) = true := by simp only [List.contains_cons, line, F.hasB, Bool.or_true]
  have c2 : (Value.ref C :: l2).contains (.type "AttributeError") = false := by
    simp only [List.contains_cons, line, F.noAttr]
    rfl
  have c3 : (Value.ref C :: l2).contains (.type "NameError") = false := by
    simp only [List.contains_cons, line, F.noName]
    rfl
  have small : ([] : List Value).length ≤ sizeLine := by
    rw [sizeLine_eq]
    exact Nat.zero_le _
  apply codeAny_builtinAt F.entry
  unfold «BaseException.__new__»
  apply wpAt_bind
  show wpAt _ _ _ (stack >>= fun _ => _) _ _ _
  apply wpAt_bind
  apply wpAt_stack
  intro p below
  apply wpAt_of_wpAny
  wp_walk
  apply wpAt_of_wpAny
  rw [F.owner]
  repeat first
    | with_reducible refine wpAny_madeHere_exc F.canon at1 ?_
    | with_reducible refine wpAny_loadPart_at at1 ?_
    | (with_reducible refine wpAny_isSubtype_exc at1 ?_
       first | rw [c1] | rw [c2] | rw [c3])
    | wp_step
  show R _ _
  rw [Heap.size_push]
  exact go
theorem typeN (F : ExcBaseFacts B mk ini lB) (o : Own h C lB mk) {Q : Fin → Shared → Prop}
    (hi : W.Looks (model prog w) h (typeLookup (.ref C) "__init__") (some (.ref fI))) (hb : ∀ x, W.Looks (model prog w) h (bindSpecial (.ref fI) x) (.ref fI, [x]))
    (go : codeAny (model prog w) A (.call (.ref fI) ⟨[.ref (h.objs.size + 1)], [(key, val)]⟩)
      (fun r s2 => match r with | .ok (.ret v) => v = .none ∧ Q (.done (.ret (.ref (h.objs.size + 1)))) s2 | .ok _ => False | .error e => E e s2) ⟨made h C, g, d, t, os⟩) :
    wpAny (model prog w) A («type.__call__» (kwA C key val)) Q E ⟨h, g, d, t, os⟩ := by
  obtain ⟨n1, n2, N, l1, l2, b1, l3, l4, b2, o1, o2, o3, o4, o5, o6, o7, at1, line⟩ := id o
  repeat first
    | with_reducible refine wpAny_loadPart_at at1 ?_
    | with_reducible refine wpAny_madeBy_exc at1 ?_
    | wp_step
  apply codeAny_call_builtin_code (Code.quiet_builtin _ F.quiet) (checkN F o ?_)
  apply newN F o
  show wpAny _ _ _ _ _ _
  have kept : ∀ b u, h.get? b = some u → (made h C).get? b = some u := fun b u e => Heap.get?_push_of_some _ (Heap.get?_push_of_some _ e)
  have at2 := kept _ _ at1
  have at3 : (made h C).get? (h.objs.size + 1) = some (excO C h.objs.size) := made_at
  have self1 : (Value.ref C :: l2).contains (.ref C) = true := by simp
  unfold isInstance
  repeat first
    | with_reducible refine wpAny_loadPart_at at3 ?_
    | (with_reducible refine wpAny_isSubtype_exc at2 ?_
       rw [self1])
    | wp_step
  have i2 := hi.keeps kept
  have j2 := (hb (.ref (h.objs.size + 1))).keeps kept
  change wpAny _ _ (typeLookup (.ref C) _) _ _ _
  apply i2.at
  apply wpAny_holding
  apply wpAny_bind
  apply j2.at
  apply wpAny_bind
  apply wpAny_call
  refine codeAny_mono go ?_
  intro r s2 z
  match r, z with
  | .error _, z => exact z
  | .ok (.ret v), z =>
    obtain ⟨rfl, y⟩ := z
    first
      | exact wpAny_pure (wpAny_pure y)
      | (wp_walk; exact y)
theorem callN (F : ExcBaseFacts B mk ini lB) (o : Own h C lB mk)
    (hi : W.Looks (model prog w) h (typeLookup (.ref C) "__init__") (some (.ref fI))) (hb : ∀ x, W.Looks (model prog w) h (bindSpecial (.ref fI) x) (.ref fI, [x]))
    (go : codeAny (model prog w) (A.under (.builtin "type.__call__" (kwA C key val))) (.call (.ref fI) ⟨[.ref (h.objs.size + 1)], [(key, val)]⟩) (W.InitBack (h.objs.size + 1) R) ⟨made h C, g, d, t, os⟩) :
    codeAny (model prog w) A (.call (.ref C) ⟨[], [(key, val)]⟩) R ⟨h, g, d, t, os⟩ := by
  obtain ⟨n1, n2, N, l1, l2, b1, l3, l4, b2, o1, o2, o3, o4, o5, o6, o7, at1, line⟩ := id o
  have t1 := tc_lookup
  have t2 := tc_bind (.ref C)
  have t3 := tc_sub
  have ty : (⟨h, g, d, t, os⟩ : Shared).TypeIs (.ref C) "type" := ⟨_, at1, rfl⟩
  apply codeAny_of_tree
  change wpAny _ _ (callAny (.ref C) _) _ _ _
  repeat
    any_goals first
      | assumption
      | with_reducible refine wpAny_loadPart_at at1 ?_
      | wp_step
  refine ⟨rfl, codeAny_call_builtin_at (Code.quiet_builtin _ (by decide +kernel)) entry_typeCall ?_⟩
  have chk : ∀ {Q : Unit → Shared → Prop} {E : Value → Shared → Prop} {A : Around}, Q () ⟨h, g, d, t, os⟩ → wpAny (model prog w) A (checkBuiltinCall "type.__call__" (kwA C key val)) Q E ⟨h, g, d, t, os⟩ := fun q => by
    simp only [checkBuiltinCall, tc_kind, tc_split, kwA]
    repeat
      any_goals first
        | assumption
        | with_reducible refine wpAny_loadPart_at at1 ?_
        | with_reducible refine wpAny_onRaise ?_
        | with_reducible refine wpAny_map ?_
        | wp_step
  apply chk
  apply typeN F o hi hb
  refine codeAny_mono go ?_
  intro r s2 z
  match r, z with
  | .error _, z => exact z
  | .ok (.ret _), z => exact z
end
end XK

end sec_XK
section sec_XD1
set_option maxRecDepth 100000
set_option maxHeartbeats 5000000
/-! XD1: runs that end by raising: statements and expressions. -/
namespace FD
open PySem L2
variable [Tabl]
/-- an exception as data -/
structure Xn where
  cn : Str
  gs : List (Str × D)
/-- how an exception stands in the heap -/
def XO (c : Ct) (da : Option Addr) (O : List Addr) (H : Hp) (x : Xn) (cls : Value) (d : Option Addr) : Prop :=
  ∃ (C dx : Addr) (fs : List (Str × V)), cls = .ref C ∧ d = some dx ∧ c.mg x.cn = some (.ref C) ∧ vis O H dx = some (.xd fs) ∧ RepF c da (vis O H) fs x.gs
theorem XO.mono {c : Ct} {da : Option Addr} {O O' : List Addr} {H H' : Hp} {x : Xn} {cls : Value} {d : Option Addr} (e : Ex (vis O H) (vis O' H')) (h : XO c da O H x cls d) : XO c da O' H' x cls d := by
  obtain ⟨C, dx, fs, h1, h2, h3, h4, h5⟩ := h
  exact ⟨C, dx, fs, h1, h2, h3, e _ _ h4, h5.mono e⟩
/-- a context that takes the wish W -/
structure XC (X : Cx) (W : WX) : Prop where
  tk : Takes X W
  po : PassesOwn (model X.prog X.w) X.A X.env X.xe
section
variable {X : Cx} {e : Expr} {st : Stmt} {rest sts : List Stmt} {g g' : M Xn} {f : M Fl} {pos pos' : Pos} {i : Nat} {x : Str}
/-- first a statement that runs through -/
def seqX (f : M Fl) (g : M Xn) : M Xn := bindM f fun fl => match fl with
  | .nx => g
  | _ => failM
def ifX (ft : M Bool) (g g' : M Xn) : M Xn := bindM ft fun b => if b then g else g'
end
end FD

end sec_XD1
section sec_XD2
set_option maxRecDepth 100000
set_option maxHeartbeats 5000000
/-! XD2: defs, calls and raise statements of runs that raise. -/
namespace FD
open PySem L2
variable [Tabl]
open PyProof.Rows (envOfC)
/-- a def's promise where it raises -/
def spX (c : Ct) (n : Nat) (den : List D → W → Option (Xn × W)) : Sp := fun vs H _ E => ∃ dr O0 w ds x w', (∀ a ∈ dr.as, a ∈ O0) ∧ (∀ a ∈ O0, ∃ o, H a = some o ∧ NT o) ∧ DrawAt dr w H ∧ RepAll c dr.da (vis O0 H) vs ds ∧ ds.length = n ∧ den ds w = some (x, w') ∧
  ∀ H' cls d, Kp dr H H' → DrawAt dr w' H' → XO c dr.da O0 H' x cls d → E cls d H'
section
variable {P : Program} {w : World} {K : PySem.W.Frag} {mg : Str → Option Value} {base : Heap}
end
/-! ### calls -/
section
variable {X : Cx} {W : WX} {k j : Nat} {f C : Addr} {fd : FuncData} {ps : List Str} {sp : Sp} {dvs : List V} {ds : List Value}
end
/-- a def that may raise -/
structure XalD (P : Program) (w : World) (K : PySem.W.Frag) (mg : Str → Option Value) (base : Heap) (k : Nat) (x : Str) (n : Nat) (dd : List D) (den : List D → W → Option (Xn × W)) : Prop where
  ex : ∃ (f : Addr) (fd : FuncData) (ps : List Str) (ds : List Value) (dvs : List V), FnOk P w K mg base (L2.CX P w) k f fd ps (spX ⟨K, mg⟩ n den) ∧ mg x = some (.ref f) ∧ PySem.W.keepIn K (.ref f) = true ∧ Binds K fd ps ds ∧ Vals dvs ds ∧ ∀ da G, RepAll ⟨K, mg⟩ da G dvs dd
structure XetD (P : Program) (w : World) (K : PySem.W.Frag) (mg : Str → Option Value) (base : Heap) (k : Nat) (cn m : Str) (n : Nat) (dd : List D) (den : List D → W → Option (Xn × W)) : Prop where
  ex : ∃ (C f : Addr) (fd : FuncData) (ps : List Str) (ds : List Value) (dvs : List V), mg cn = some (.ref C) ∧ Cls K C ∧ Meth K C m f ∧ FnOk P w K mg base (L2.CX P w) k f fd ps (spX ⟨K, mg⟩ n den) ∧ Binds K fd ps ds ∧ Vals dvs ds ∧ ∀ da G, RepAll ⟨K, mg⟩ da G dvs dd
def runX (den : List D → W → Option (Xn × W)) (ds : List D) : M Xn := fun ρ w => (den ds w).map fun z => (z.1, ρ, z.2)
theorem runX_some {den : List D → W → Option (Xn × W)} {ds : List D} {ρ ρ' : Env} {w w' : W} {x : Xn} (h : runX den ds ρ w = some (x, ρ', w')) : den ds w = some (x, w') ∧ ρ' = ρ := by
  unfold runX at h
  cases e : den ds w with
  | none =>
    rw [e] at h
    cases h
  | some z =>
    rw [e] at h
    cases h
    exact ⟨rfl, rfl⟩
def callX (den : List D → W → Option (Xn × W)) (dd : List D) (fa : M (List RV)) : M Xn := bindM fa fun rs => bindM (escAll rs) fun ds => runX den (ds ++ dd)
def methX (cn m : Str) (den : List D → W → Option (Xn × W)) (dd : List D) (fo : M RV) (fa : M (List RV)) : M Xn :=
  bindM fo fun r => bindM (selfR cn m r) fun d => bindM fa fun rs => bindM (escAll rs) fun ds => runX den (d :: (ds ++ dd))
section
variable {X : Cx} {e o : Expr} {es : List Expr} {pos p apos : Pos} {x m cn : Str} {k j n : Nat} {dd : List D} {den : List D → W → Option (Xn × W)} {fa : M (List RV)} {fo : M RV}
end
end FD

end sec_XD2
section sec_XD3
set_option maxRecDepth 100000
set_option maxHeartbeats 5000000
/-! XD3: raise, exceptions' __init__, for loops that raise. -/
namespace FD
open PySem L2
variable [Tabl]
open PyProof.Rows (envOfC)
/-- __init__ of an exception with one field -/
def spXI (C : Addr) (f : Str) : Sp := fun vs H Q _ => ∃ (a : Addr) (v : V), vs = [.ref a, v] ∧ H a = some (exo a C none) ∧ ∀ dx, H dx = none → dx ≠ a → Q .non (upd (upd H dx (exd dx [(f, v)])) a (exo a C (some dx)))
section
variable {P : Program} {w : World} {K : PySem.W.Frag} {mg : Str → Option Value} {base : Heap}
theorem xinit_ok {qual : Str} {st : Stmt} {fI C : Addr} {fd : FuncData} {y fl : Str} {p1 p2 p3 p4 : Pos} (F : Fun K "__init__" qual st fI fd) (S : FnScope ["self", y] ["self", y] (defScope st)) (T : OexC K C) (hno : PySem.W.findIn K (.ref C) fl = some none)
    (hbd : defBody st = [.Assign [.Attribute (.Name "self" p1) fl p2] (.Name y p3) p4]) (v0 : Vis (defScope st) "self") (v1 : Vis (defScope st) y) (hyd : NotDebug y := by decide) (hyc : (y == ("__classdict__" : Str)) = false := by decide) :
    FnOk P w K mg base CX0 1 fI fd ["self", y] (spXI C fl) := by
  obtain ⟨oc, od, kV, doc, pm, an, cdv, ctt, osl, rfl, lk, hcd⟩ := F.ex
  refine fn_of (k := 0) lk hcd S (fun vs H Q E h => ?_) fun A outer s H vs Q E hr h => ?_
  · obtain ⟨a, v, rfl, _⟩ := h
    rfl
  · obtain ⟨a, v, rfl, ha, q⟩ := h
    rw [hbd]
    refine ⟨_, pss_one (ps_ost (pe_var (i := 0) rfl v0) (pe_var (i := 1) rfl v1 hyd hyc)), ?_⟩
    exact ⟨v, rfl, .ref a, rfl, a, C, rfl, T, hno, .inl ⟨ha, fun dx n ne => q dx n ne⟩⟩
end
/-- an own exception class: its one field, its __init__ -/
structure XcD (P : Program) (w : World) (K : PySem.W.Frag) (mg : Str → Option Value) (base : Heap) (cn f : Str) : Prop where
  ex : ∃ (C fI : Addr) (fd : FuncData) (ps : List Str), mg cn = some (.ref C) ∧ OexC K C ∧ PySem.W.findIn K (.ref C) "__init__" = some (some (.ref fI)) ∧ PySem.W.typeIn K (.ref fI) = some (.type "function") ∧ FnOk P w K mg base CX0 1 fI fd ps (spXI C f) ∧ Binds K fd ps []
def raiseX (cn f : Str) (fa : M (List RV)) : M Xn := bindM fa fun rs => bindM (escAll rs) fun ds => match ds with
  | [d] => pureM ⟨cn, [(f, d)]⟩
  | _ => failM
section
variable {X : Cx} {e : Expr} {pos p pos' : Pos} {cn f : Str} {j : Nat} {fa : M (List RV)}
end
/-! ### for -/
section
variable {X : Cx} {tg iter : Expr} {body : List Stmt} {pos : Pos} {fi : M (List D)} {js : List Nat} {g : D → M Unit} {fb : M Fl} {xb : M Xn}
end
end FD

end sec_XD3
section sec_XD4
set_option maxRecDepth 100000
set_option maxHeartbeats 5000000
/-! XD4: exceptions that were caught and kept. -/
namespace FD
open PySem L2
variable [Tabl]
section
variable {X : Cx} {pins : List (Addr × PySem.Obj)} {σ : L2.St} {H : Hp} {s : Shared}
/-- what lies at a is an exception: tracked from here on -/
theorem inv_track {a C dx : Addr} {oe : PySem.Obj} {vs : Array Value} (I : Inv X pins σ H s) (ha : s.heap.get? a = some oe) (hc : oe.cls = .ref C) (hi : oe.dict = some dx) (hd : oe.data = .fields vs) (na : H a = none) (nL : a ≠ X.env.locals)
    (h0 : X.s_0.heap.get? a = none) (np : ∀ p ∈ X.pn ++ pins, p.1 ≠ a) : Inv X pins σ (upd H a (EXO a C dx)) s where
  ok := I.ok
  os := I.os
  bare := I.bare
  base :=
    { keep := I.base.keep
      slot := I.base.slot
      free := fun b o q n z => by
        have : b ≠ a := fun e => by rw [e, h0] at q; cases q
        rw [upd_ne this]
        exact I.base.free b o q n z
      there := I.base.there
      tups := fun b xs q => (upd_ne (ne_of_none (I.base.tups b xs q) na)).trans (I.base.tups b xs q)
      frzs := fun b o u q => (upd_ne (ne_of_none (I.base.frzs b o u q) na)).trans (I.base.frzs b o u q)
      tbls := fun b ps q => by
        obtain ⟨m, e⟩ := I.base.tbls b ps q
        exact ⟨m, (upd_ne (ne_of_none e na)).trans e⟩ }
  loc := I.loc
  cell := I.cell
  free := (upd_ne (Ne.symm nL)).trans I.free
  freeC := fun x c e => by
    obtain ⟨v, hv⟩ := I.cell x c e
    have : c ≠ a := fun z => by
      subst z
      obtain ⟨o, h1, h2⟩ := hv
      rw [ha] at h1
      cases h1
      rw [hd] at h2
      cases h2
    rw [upd_ne this]
    exact I.freeC x c e
  pin := fun p hp => by
    obtain ⟨q1, q2, q3⟩ := I.pin p hp
    exact ⟨q1, (upd_ne (np p hp)).trans q2, q3⟩
  hok := L2.HOk.laidN I.hok (fun _ _ q => q) na ⟨⟨oe, vs, ha, hc, hi, hd⟩, ⟨oe, ha⟩, fun h1 h2 ⟨oe', vs', k1, k2⟩ k => ⟨oe', vs', k _ k1, k2⟩⟩
  len := I.len
end
section
variable {X : Cx} {x n y : Str} {c : Value} {i j : Nat} {body : List Stmt} {np p1 p2 p3 p4 pos : Pos} {tb : WX → TS}
end
end FD

end sec_XD4
section sec_XD5
set_option maxRecDepth 100000
set_option maxHeartbeats 5000000
/-! XD5: try .. except x as n: y = n; isinstance and fields of what was caught. -/
namespace FD
open PySem L2
variable [Tabl]
section
variable {c : Ct} {F : Fm} {O : List Addr} {ρ : Env} {w : W} {σ : L2.St} {H : Hp} {v : V} {da : Option Addr}
/-- an exception of the class at C: with a dict, or with none -/
def XAt (H : Hp) (a C : Addr) : Prop := (∃ dx fs, H a = some (EXO a C dx) ∧ H dx = some (.xd fs)) ∨ H a = some (ExO (.ref C) a)
theorem RepP.exc {cn : Str} {gs : List (Str × D)} (h : RepP c da O H v (.exc cn gs)) : ∃ a C, v = .ref a ∧ c.mg cn = some (.ref C) ∧ XAt H a C ∧ (gs = [] ∨ ∃ dx fs, H a = some (EXO a C dx) ∧ H dx = some (.xd fs) ∧ RepF c da (vis O H) fs gs) := by
  rcases h with h | ⟨a, o, _, _, h⟩
  · cases h with
    | exc e1 e2 m r => exact ⟨_, _, rfl, m, .inl ⟨_, _, vis_ex _ _ e1, vis_ex _ _ e2⟩, .inr ⟨_, _, vis_ex _ _ e1, vis_ex _ _ e2, r⟩⟩
    | exo e m => exact ⟨_, _, rfl, m, .inr (vis_ex _ _ e), .inl rfl⟩
  · rcases h with ⟨_, _, _, e, _⟩ | ⟨_, _, _, e, _⟩ | ⟨_, _, _, e, _⟩ | ⟨_, _, _, _, _, _, e, _⟩ <;> cases e
end
/-! ### try -/
/-- the classes that the clause takes -/
def XsD (K : PySem.W.Frag) (mg : Str → Option Value) (c : Value) (ex : List Str) : Prop := ∀ cn ∈ ex, ∃ C, mg cn = some (.ref C) ∧ PySem.W.exmOne K (.ref C) c = some true
section
variable {X : Cx} {x n y : Str} {c : Value} {i j : Nat} {body : List Stmt} {np p1 p2 p3 p4 pos : Pos} {ex : List Str} {fb : M Fl} {gb : M Xn}
end
/-! ### isinstance, fields -/
abbrev XTy := L2.ExcC
section
variable {X : Cx} {pins : List (Addr × PySem.Obj)} {σ : L2.St} {H : Hp} {s : Shared} {a C dx : Addr} {fs : List (Str × V)}
theorem exc_at (I : Inv X pins σ H s) (ea : H a = some (EXO a C dx)) (ed : H dx = some (.xd fs)) : ∃ (oe od : PySem.Obj) (mA : Str → Option Value), PySem.W.InstAt s.heap a oe C (some od) ∧ (∀ f, PySem.W.lookIn f od = some (mA f)) ∧ ∀ f, RelO (fs.lookup f) (mA f) := by
  obtain ⟨⟨oe, vs, h1, h2, h3, h4⟩, _⟩ := (show ObjOk X.prog X.w H s.heap a (EXO a C dx) from I.hok a _ ea)
  obtain ⟨mA, hn, hr⟩ := (show ObjOk X.prog X.w H s.heap dx (.xd fs) from I.hok dx _ ed)
  obtain ⟨od, ho, hl⟩ := lookIn_ns hn
  refine ⟨oe, od, mA, ⟨h1, h2, ?_, ?_⟩, hl, hr⟩
  · unfold PySem.W.notCls
    rw [h4]
  · rw [h3]
    exact ho
theorem xat_at (I : Inv X pins σ H s) (e : XAt H a C) : ∃ (oe : PySem.Obj) (o' : Option PySem.Obj), PySem.W.InstAt s.heap a oe C o' := by
  rcases e with ⟨dx, fs, ea, ed⟩ | e
  · obtain ⟨oe, od, _, J, _, _⟩ := exc_at I ea ed
    exact ⟨oe, _, J⟩
  · obtain ⟨⟨oe, vs, h1, h2, h3, _⟩, _⟩ := (show ObjOk X.prog X.w H s.heap a (ExO (.ref C) a) from I.hok a _ e)
    refine ⟨oe, none, h1, h2.1, ?_, ?_⟩
    · unfold PySem.W.notCls
      rw [h3]
    · rw [h2.2]
      trivial
theorem kit_exc (T : XTy X.K C) {oe : PySem.Obj} {o' : Option PySem.Obj} : PySem.W.KitX X.K (.ref a) (.ref C) (fun h => PySem.W.InstAt h a oe C o') := by
  obtain ⟨cd, hc, _⟩ := PySem.W.any_some T.hd
  exact PySem.W.kitx_exc (by rw [hc]; rfl) T.hg T.hk T.hs T.ha T.hn T.ht T.hm
def rIsx (K : PySem.W.Frag) : List V → Hp → VK → Prop := fun xs H Q => ∃ (a C : Addr) (c : V) (u : Value) (b : Bool), xs = [.ref a, c] ∧ XAt H a C ∧ XTy K C ∧ ClsV c u ∧ PySem.W.kitOne K (.ref C) u = some b ∧ Q (.bl b) H
theorem call_isx : CallR X (.builtin "isinstance") (rIsx X.K) := fun pins s σ H xs us Q I r h => by
  obtain ⟨a, C, c, u, b, rfl, ea, T, k, e, q⟩ := h
  obtain ⟨u1, u2, rfl, r1, r2⟩ := vals2 r
  obtain rfl := k.eq r2
  cases r1
  obtain ⟨oe, o', J⟩ := xat_at I ea
  exact PySem.W.kia_one (kit_exc T) I.kIn J e (fun z => nomatch z) fun tk => ⟨.bl b, H, I.tok tk, rfl, q⟩
end
structure KxD (K : PySem.W.Frag) (mg : Str → Option Value) (ok : Value → Bool → Prop) (ic : List (Str × Bool)) : Prop where
  all : ∀ p ∈ ic, ∃ C, mg p.1 = some (.ref C) ∧ XTy K C ∧ ok (.ref C) p.2
def isxD (ic : List (Str × Bool)) : D → Option RV
  | .exc cn _ => (ic.lookup cn).map fun b => .sh (.bl b)
  | _ => none
def xfD (cns : List Str) (f : Str) : D → Option RV
  | .exc cn gs => if cns.contains cn then (gs.lookup f).map .sh else none
  | _ => none
structure KfD (K : PySem.W.Frag) (mg : Str → Option Value) (cns : List Str) (f : Str) : Prop where
  all : ∀ cn ∈ cns, ∃ C, mg cn = some (.ref C) ∧ XfC K C ∧ PySem.W.findIn K (.ref C) f = some none
section
variable {X : Cx} {a c1 e : Expr} {cs : List Expr} {pos p p2 : Pos} {ic : List (Str × Bool)} {cns : List Str} {f : Str} {fa : M RV}
theorem fe_isx {u : V} {uv : Value} (hg : Gl X "isinstance") (hm : X.mg "isinstance" = none) (hc : PE X c1 (tC u)) (hu : ClsV u uv) (hk : KxD X.K X.mg (fun t b => PySem.W.kitOne X.K t uv = some b) ic) (ha : FE X a fa)
    (hs : Plain1 X a [c1] := by rfl) (hs2 : Plain1 X c1 [] := by rfl) (hpl : PlainR X [c1] pos := by rfl) : FE X (.Call (.Name "isinstance" p) [a, c1] [] pos) (op1M (isxD ic) fa) := fun F =>
  PE.wk (pe_callB call_isx hg hm bt_isi (pa_cons (ha F) (pks_cons hc pks_nil hs2) hs) (by decide) (by decide) hs hpl) fun σ H Q q => by
    obtain ⟨O, ρ, w, r, ρ', w', S, e, k⟩ := q
    refine tE_then S e fun v O1 ρ1 w1 H1 r1 S1 e1 R1 h1 => ?_
    obtain ⟨d1, r', q1, eg, ez⟩ := lift1_some h1
    cases ez
    have P := R1.hold.peek S1 q1
    cases d1 with
    | exc cn gs =>
      obtain ⟨y, C, rfl, m, ea, _⟩ := P.exc
      unfold isxD at eg
      dsimp only at eg
      cases q : ic.lookup cn with
      | none =>
        rw [q] at eg
        cases eg
      | some b =>
        rw [q] at eg
        cases eg
        obtain ⟨C', m', T, o⟩ := hk.all _ (lookup_mem q)
        rw [show X.mg cn = some (.ref C) from m] at m'
        cases m'
        exact ⟨y, C, u, uv, b, rfl, ea, T, hu, o, k _ O1 H1 S1 e1 (Rep.bl b)⟩
    | _ => cases eg
theorem fe_xf (hk : KfD X.K X.mg cns f) (he : FE X e fa) (hb : attributeBase e f X.env (eval e X.env) = eval e X.env := by rfl) : FE X (.Attribute e f pos) (op1M (xfD cns f) fa) := fun F => ⟨fun pins s σ H Q I q => by
  obtain ⟨O, ρ, w, r, ρ', w', S, ee, k⟩ := q
  have t : tE (ct X) F fa σ H fun v H1 => ∃ y C dx fs u, v = .ref y ∧ H1 y = some (EXO y C dx) ∧ H1 dx = some (.xd fs) ∧ XfC X.K C ∧ PySem.W.findIn X.K (.ref C) f = some none ∧ fs.lookup f = some u ∧ Q u H1 := by
    refine tE_then S ee fun v O1 ρ1 w1 H1 r1 S1 e1 R1 h1 => ?_
    obtain ⟨d1, r', q1, eg, ez⟩ := lift1_some h1
    cases ez
    have P := R1.hold.peek S1 q1
    cases d1 with
    | exc cn gs =>
      obtain ⟨y, C, rfl, m, _, z⟩ := P.exc
      unfold xfD at eg
      dsimp only at eg
      split at eg
      · rename_i hin
        rcases z with rfl | ⟨dx, fs, ea, ed, rf⟩
        · cases eg
        cases q : gs.lookup f with
        | none =>
          rw [q] at eg
          cases eg
        | some d =>
          rw [q] at eg
          cases eg
          obtain ⟨C', m', T, no⟩ := hk.all cn (by simpa using hin)
          rw [show X.mg cn = some (.ref C) from m] at m'
          cases m'
          obtain ⟨u, lu, ru⟩ := rf.lookup q
          exact ⟨y, C, dx, fs, u, rfl, ea, ed, T, no, lu, k _ O1 H1 S1 e1 ru⟩
      · cases eg
    | _ => cases eg
  refine attr_of hb (thn ((he F).run pins s σ H _ I t) fun z s1 ⟨v, H1, I1, rv, y, C, dx, fs, u, ev, ea, ed, T, no, lu, qu⟩ => ?_)
  subst ev
  cases rv
  obtain ⟨oe, od, mA, J, hl, hr⟩ := exc_at I1 ea ed
  obtain ⟨z, hz, rz⟩ := RelO.some_of (v := u) (o := mA f) (by rw [← lu]; exact hr f)
  exact HandSPX.exc_get I1.kIn J T.ga T.gg T.exC (PySem.W.findObj_own T.hdC no rfl (by rw [hl, hz])) (handed_of rz) ⟨u, H1, I1.tok _, rz, qu⟩⟩
end
end FD

end sec_XD5
section sec_XD6
set_option maxRecDepth 100000
set_option maxHeartbeats 5000000
/-! XD6: short forms for the printed derivations of runs that raise. -/
namespace FD
open PySem L2
variable [Tabl]
/-- the clause's class, and the classes that it takes -/
structure XcatD (K : PySem.W.Frag) (mg : Str → Option Value) (x : Str) (ex : List Str) : Prop where
  ex : ∃ C, mg x = some (.ref C) ∧ XsD K mg (.ref C) ex
structure IsxC (K : PySem.W.Frag) (mg : Str → Option Value) (cn : Str) (ic : List (Str × Bool)) : Prop where
  ex : ∃ C, mg cn = some (.ref C) ∧ KxD K mg (fun t b => PySem.W.kitOne K t (.ref C) = some b) ic
section
variable {X : Cx} {x n y cn : Str} {i j : Nat} {body : List Stmt} {np p1 p2 p3 p4 p pos : Pos} {ex : List Str} {fb : M Fl} {gb : M Xn} {ic : List (Str × Bool)} {a : Expr} {fa : M RV}
theorem fe_isxC (h : IsxC X.K X.mg cn ic) (hgc : Gl X cn) (hm : X.mg "isinstance" = none) (hg : Gl X "isinstance") (ha : FE X a fa) (hd : NotDebug cn := by decide)
    (hs : Plain1 X a [.Name cn p] := by rfl) (hs2 : Plain1 X (.Name cn p) [] := by rfl) (hpl : PlainR X [.Name cn p] pos := by rfl) : FE X (.Call (.Name "isinstance" p1) [a, .Name cn p] [] pos) (op1M (isxD ic) fa) := by
  obtain ⟨C, mc, k⟩ := h.ex
  exact fe_isx hg hm (pe_glob (v := .ref C) hgc mc rfl hd) (.own C) k ha hs hs2 hpl
end
end FD

end sec_XD6
section sec_XD7
set_option maxRecDepth 100000
set_option maxHeartbeats 5000000
/-! XD7: isinstance of a caught exception, with a tuple of own classes. -/
namespace FD
open PySem L2
variable [Tabl]
structure IsxT3 (K : PySem.W.Frag) (mg : Str → Option Value) (ca cb cc : Str) (ic : List (Str × Bool)) : Prop where
  ex : ∃ A B C : Addr, mg ca = some (.ref A) ∧ mg cb = some (.ref B) ∧ mg cc = some (.ref C) ∧ KxD K mg (fun t b => PySem.W.kitAny K t [.ref A, .ref B, .ref C] = some b) ic
structure IsxT2 (K : PySem.W.Frag) (mg : Str → Option Value) (ca cb : Str) (ic : List (Str × Bool)) : Prop where
  ex : ∃ A B : Addr, mg ca = some (.ref A) ∧ mg cb = some (.ref B) ∧ KxD K mg (fun t b => PySem.W.kitAny K t [.ref A, .ref B] = some b) ic
section
variable {X : Cx} {a : Expr} {cs : List Expr} {fa : M RV} {ic : List (Str × Bool)} {p p2 pa pb pc pos : Pos} {ca cb cc : Str}
end
end FD

end sec_XD7
section sec_XD8
set_option maxRecDepth 100000
set_option maxHeartbeats 5000000
/-! XD8: own operators and subscripts that raise; C(..) that raises. -/
namespace FD
open PySem L2
variable [Tabl]
structure XpcD (P : Program) (w : World) (K : PySem.W.Frag) (mg : Str → Option Value) (base : Heap) (k : Nat) (cn nm : Str) (n : Nat) (den : List D → W → Option (Xn × W)) : Prop where
  ex : ∃ (C f : Addr) (fd : FuncData) (ps : List Str), mg cn = some (.ref C) ∧ PySem.W.selfFirst K C = true ∧ PySem.W.findIn K (.ref C) nm = some (some (.ref f)) ∧ PySem.W.isFn K (.ref f) = true ∧ PySem.W.fnIn K f = true ∧ FnOk P w K mg base (L2.CX P w) k f fd ps (spX ⟨K, mg⟩ n den) ∧ Binds K fd ps []
section
variable {X : Cx} {a b : Expr} {pos : Pos} {cn : Str} {k j : Nat} {den : List D → W → Option (Xn × W)} {fa fb : M RV}
end
end FD

end sec_XD8
section sec_XV
set_option maxRecDepth 100000
set_option maxHeartbeats 2000000
/-! XV: exceptions that are made and kept as values: C(e), C(k = e), C(text). -/
namespace FD
open PySem L2
variable [Tabl]
section
variable {X : Cx} {e : Expr}
/-- what would be raised is kept -/
theorem pe_mk {t : L2.St → Hp → XK → Prop} (hex : X.ex = []) (h : PMk X e t) :
    PE X e (fun σ H Q => t σ H fun cls d H' => ∃ C dx, cls = .ref C ∧ d = some dx ∧ ∀ a, H' a = none → Q (.ref a) (upd H' a (EXO a C dx))) := ⟨fun pins s σ H Q I q => by
  refine wpAny_mono (h pins s σ H _ I q) (fun u s1 z => ?_) fun _ _ x => x
  obtain ⟨a, oe, vs, sI, H', cls, d, rfl, J, k, hne, ha, hz, hd, h1, na, os, ag, rs, C, dx, rfl, rfl, go⟩ := z
  have J1 : Inv X pins σ H' s1 := J.landed (B := sI.heap) (fun b o e _ => e) k (Heap.UpToSlots.of_keeps k) os ag
  have nL : a ≠ X.env.locals := by
    rintro rfl
    obtain ⟨m, ⟨o, es, ep, ho, _⟩, _⟩ := J.loc
    rw [hne] at ho
    cases ho
  have n0 : X.s_0.heap.get? a = none := by
    cases q : X.s_0.heap.get? a with
    | none => rfl
    | some o =>
      obtain ⟨o', e'⟩ := J.base.there a o q (by rw [hex]; simp)
      rw [hne] at e'
      cases e'
  have np : ∀ p ∈ X.pn ++ pins, p.1 ≠ a := fun p hp z => by
    have := (J.pin p hp).1
    rw [z, hne] at this
    cases this
  exact ⟨.ref a, _, inv_track J1 ha hz.1 hz.2 hd na nL n0 np, rfl, go a na⟩⟩
end
/-- C(k = e) -/
def tMkK (C : Addr) (sp : Sp) (tk : TA) : L2.St → Hp → XK → Prop := fun σ H Q => tk σ H fun vs H1 => vs.length = 1 ∧ tMkO C sp [] (fun _ G k => k vs G) σ H1 Q
/-- the one keyword that is given is key -/
def KwIs (X : Cx) (pos : Pos) (kws : List Keyword) (key : Str) : Prop :=
  ((backToKw pos (keywordEach kws X.env)).all fun z => z.1.isSome) = true ∧ (backToKw pos (keywordEach kws X.env)).filterMap (fun z => z.1) = [key] ∧
    (((backTo pos (starEach [] X.env)).any fun z => z.1) || (backToKw pos (keywordEach kws X.env)).any fun z => z.1.isNone) = false
section
variable {X : Cx} {kws : List Keyword} {pos p : Pos} {tk : TA}
theorem pmk_kw {CX : CXT} {x key : Str} {C fI : Addr} {k : Nat} {fd : FuncData} {ps : List Str} {sp : Sp} (T : OexC X.K C) (iC : PySem.W.findIn X.K (.ref C) "__init__" = some (some (.ref fI))) (tI : PySem.W.typeIn X.K (.ref fI) = some (.type "function"))
    (F1 : FnOk X.prog X.w X.K X.mg X.base CX k fI fd ps sp) (hr : Room (k + 1) X.A) (hb : ∀ (s : Shared) (self u : Value), BindsTo s fd ⟨[self], [(key, u)]⟩ (ps.zip [self, u])) (hx : Passes CX X (fun _ _ _ => False)) (hg : Gl X x) (hm : X.mg x = some (.ref C)) (hkw : PK X kws tk) (hk : KwIs X pos kws key) (hdb : NotDebug x := by decide) :
    PMk X (.Call (.Name x p) [] kws pos) (tMkK C sp tk) := by
  intro pins s σ H Q I h
  obtain ⟨n1, n2, N, l1, l2, l3, l4, b2, o1, o2, o3, o4, o5, o6, o7, hC, line⟩ := id T.cls
  obtain ⟨hall, hks, hpl⟩ := hk
  refine wpAny_Call_Name_kw (ld_glob I hg hm (PySem.W.callWith_KW0 (h₀ := X.base) I.ok.mod.kin T.kC hall (thn (hkw.run pos pins s σ H _ I h) fun ws s1 ⟨zs, H1, I1, rz, hz, q1⟩ => ⟨I1.kIn, ?_⟩) hpl) hdb)
  rw [hks]
  obtain ⟨z, rfl⟩ := List.length_eq_one_iff.mp hz
  cases rz with
  | cons ru r0 =>
    cases r0
    rename_i u _ap
    obtain ⟨hp, g, dr, tok, os⟩ := s1
    have below : hp.objs.size ≤ hp.objs.size + 1 := Nat.le_succ _
    have q2 := q1.2 (hp.objs.size + 1) (I1.hok.fresh below)
    have stays : ∀ b o, hp.get? b = some o → (XK.made hp C).get? b = some o := fun b o e => Heap.get?_push_of_some _ (Heap.get?_push_of_some _ e)
    have there : (XK.made hp C).get? (hp.objs.size + 1) = some (PySem.HandSPX.excO C hp.objs.size) := XK.made_at
    have I2 : Inv X pins σ (upd H1 (hp.objs.size + 1) (exo (hp.objs.size + 1) C none)) ⟨XK.made hp C, g, dr, tok, os⟩ := I1.laid (t' := tok) (a := hp.objs.size + 1) (o := exo (hp.objs.size + 1) C none) (h' := XK.made hp C) stays below (exo_ok there)
    have r2 : Vals [V.ref (hp.objs.size + 1), z] [Value.ref (hp.objs.size + 1), u] := .cons rfl (.cons ru .nil)
    have run := F1.run _ X.stack _ _ ⟨[Value.ref (hp.objs.size + 1)], [(key, u)]⟩ _ _ _ (fun _ _ _ => False) (hr.make C [] [(key, u)]) (I2.env0.make C [] [(key, u)]) (hb _ _ u) r2 q2
    refine wpAny_call (XK.callN PySem.F.excBase_ValueError ⟨n1, n2, N, l1, l2, _, l3, l4, b2, o1, o2, o3, o4, o5, o6, o7, I1.kIn _ _ hC, fun Y => PySem.HandSPX.refsVE_contains Y l2 line⟩ (PySem.W.looks_findIn I1.kIn iC) (fun self => PySem.W.bind_fn I1.kIn self tI) (codeAny_mono run fun r s2 out => ?_))
    match r, out with
    | .error er, out => exact hx pins σ _ _ er s2 I2 out
    | .ok (.ret v), out =>
      obtain ⟨y, H2, os2, bare2, un2, hok2, rv, ey, dx, fs, ea, ed, n1, q3⟩ := out
      subst ey
      obtain ⟨h2, g2, d2, t2, os3⟩ := s2
      exact ⟨rv, mk_end (raises_own T.exC T.tyC) I1 below stays un2 hok2 os2 bare2 ea ed n1 q3⟩
end
structure XckD (P : Program) (w : World) (K : PySem.W.Frag) (mg : Str → Option Value) (base : Heap) (cn f key : Str) : Prop where
  ex : ∃ (C fI : Addr) (fd : FuncData) (ps : List Str), mg cn = some (.ref C) ∧ OexC K C ∧ PySem.W.findIn K (.ref C) "__init__" = some (some (.ref fI)) ∧ PySem.W.typeIn K (.ref fI) = some (.type "function") ∧ FnOk P w K mg base CX0 1 fI fd ps (spXI C f) ∧
    ∀ (s : Shared) (self u : Value), BindsTo s fd ⟨[self], [(key, u)]⟩ (ps.zip [self, u])
/-- an own exception class without own __init__ -/
structure X0cD (K : PySem.W.Frag) (mg : Str → Option Value) (cn : Str) : Prop where
  ex : ∃ C : Addr, mg cn = some (.ref C) ∧ PySem.W.excIn K C PySem.HandSPX.veTail "ValueError.__new__" = true ∧ PySem.W.keepIn K (.ref C) = true
def mkX (cn f : Str) (fa : M (List RV)) : M RV := bindM fa fun rs => bindM (escAll rs) fun ds => match ds with
  | [d] => pureM (.sh (.exc cn [(f, d)]))
  | _ => failM
def mk0 (cn : Str) (fa : M RV) : M RV := bindM fa fun _ => pureM (.sh (.exc cn []))
section
variable {X : Cx} {e : Expr} {kws : List Keyword} {pos p : Pos} {cn f key : Str} {j : Nat} {fa : M (List RV)} {fe : M RV}
/-- the state behind the making -/
theorem mkX_end {F : Fm} {O O2 : List Addr} {ρ2 : Env} {w2 : W} {σ : L2.St} {H H1 : Hp} {Q : VK} {C a : Addr} {v : V} {d : D} (hm : X.mg cn = some (.ref C)) (S2 : SR (ct X) F O2 ρ2 w2 σ H1) (x2 : Ex (vis O H) (vis O2 H1)) (rv : Rep (ct X) F.dr.da (vis O2 H1) v d) (na : H1 a = none)
    (kk : ∀ u O' H', SR (ct X) F O' ρ2 w2 σ H' → Ex (vis O H) (vis O' H') → Rep (ct X) F.dr.da (vis O' H') u (.exc cn [(f, d)]) → Q u H') {dx : Addr} (ndx : H1 dx = none) (ne : dx ≠ a) {H' : Hp}
    (eH : H' = upd (del (upd (upd (upd H1 a (exo a C none)) dx (exd dx [(f, v)])) a (exo a C (some dx))) a) dx (.xd [(f, v)])) {b : Addr} (nb : H' b = none) : Q (.ref b) (upd H' b (EXO b C dx)) := by
  have x3 : Ex H1 H' := fun y o hy => by
    rw [eH, upd_ne (ne_of_none hy ndx), del_ne (ne_of_none hy na), upd_ne (ne_of_none hy na), upd_ne (ne_of_none hy ndx), upd_ne (ne_of_none hy na)]
    exact hy
  have x4 : Ex H1 (upd H' b (EXO b C dx)) := x3.trans (Ex.new nb)
  have S4 := S2.grow x4
  have off : ∀ y, H1 y = none → y ∉ O2 := fun y n z => by
    obtain ⟨o, q, _⟩ := S2.trk y z
    rw [n] at q
    cases q
  have nb1 : H1 b = none := x3.free nb
  have hdx : H' dx = some (.xd [(f, v)]) := by rw [eH, upd_same]
  have dne : dx ≠ b := fun z => by
    rw [← z, hdx] at nb
    cases nb
  refine kk (.ref b) O2 _ S4 (x2.trans (vis_mono x4)) (.exc (C := C) (dx := dx) (fs := [(f, v)]) ?_ ?_ hm (.cons (rv.mono (vis_mono x4)) .nil))
  · rw [vis_out (off b nb1), upd_same]
  · rw [vis_out (off dx ndx), upd_ne dne, hdx]
theorem fe_mkX (xd : XcD X.prog X.w X.K X.mg X.base cn f) (hex : X.ex = []) (hr : Room j X.A) (hg : Gl X cn) (ha : FA X [e] fa) (hj : 2 ≤ j := by decide) (hdb : NotDebug cn := by decide) (he : Plain1 X e [] := by rfl) (hpl : PlainR X [] pos := by rfl) :
    FE X (.Call (.Name cn p) [e] [] pos) (mkX cn f fa) := fun F => by
  obtain ⟨C, fI, fd, ps, hm, T, iC, tI, FO, hb⟩ := xd.ex
  refine PE.wk (pe_mk hex (pmk_oex (CX := CX0) T iC tI FO (hr.mono hj) hb .nil pass0 hg hm (ha.run F) hdb he hpl)) fun σ H Q q => ?_
  obtain ⟨O, ρ, w, r, ρ', w', S, ey, kk⟩ := q
  refine tA_then S ey fun vs O1 ρ1 w1 H1 rs S1 e1 R1 f1 h1 => ?_
  obtain ⟨ds1, ρ2, w2, h2, h3⟩ := bindM_some h1
  obtain ⟨rfl, O2, S2, k2, r2⟩ := escAll_ok S1 R1 h2
  have hl : vs.length = 1 := by rw [← R1.length, ha.len _ _ _ _ _ f1]; rfl
  match vs, hl, ds1, r2, h3 with
  | [v], _, [d], .cons rv .nil, h3 =>
    cases h3
    refine ⟨by simp, fun a na => ⟨a, v, rfl, upd_same, fun dx ndx ne => ⟨rfl, dx, [(f, v)], upd_same, ?_, ?_, C, dx, rfl, rfl, fun b nb => ?_⟩⟩⟩
    · rw [upd_ne ne, upd_same]
    · rw [upd_ne ne] at ndx
      exact ndx
    · rw [upd_ne ne] at ndx
      exact mkX_end hm S2 (e1.trans k2) rv na kk ndx ne rfl nb
theorem fe_mkXK (xd : XckD X.prog X.w X.K X.mg X.base cn f key) (hex : X.ex = []) (hr : Room j X.A) (hg : Gl X cn) (ha : FK X kws fa) (hn : kws.length = 1) (hj : 2 ≤ j := by decide) (hdb : NotDebug cn := by decide) (hk : KwIs X pos kws key := by exact ⟨rfl, rfl, rfl⟩) :
    FE X (.Call (.Name cn p) [] kws pos) (mkX cn f fa) := fun F => by
  obtain ⟨C, fI, fd, ps, hm, T, iC, tI, FO, hb⟩ := xd.ex
  refine PE.wk (pe_mk hex (pmk_kw (CX := CX0) T iC tI FO (hr.mono hj) hb pass0 hg hm (ha.run F) hk hdb)) fun σ H Q q => ?_
  obtain ⟨O, ρ, w, r, ρ', w', S, ey, kk⟩ := q
  refine tA_then S ey fun vs O1 ρ1 w1 H1 rs S1 e1 R1 f1 h1 => ?_
  obtain ⟨ds1, ρ2, w2, h2, h3⟩ := bindM_some h1
  obtain ⟨rfl, O2, S2, k2, r2⟩ := escAll_ok S1 R1 h2
  have hl : vs.length = 1 := by rw [← R1.length, ha.len _ _ _ _ _ f1, hn]
  match vs, hl, ds1, r2, h3 with
  | [v], _, [d], .cons rv .nil, h3 =>
    cases h3
    refine ⟨rfl, by simp, fun a na => ⟨a, v, rfl, upd_same, fun dx ndx ne => ⟨rfl, dx, [(f, v)], upd_same, ?_, ?_, C, dx, rfl, rfl, fun b nb => ?_⟩⟩⟩
    · rw [upd_ne ne, upd_same]
    · rw [upd_ne ne] at ndx
      exact ndx
    · rw [upd_ne ne] at ndx
      exact mkX_end hm S2 (e1.trans k2) rv na kk ndx ne rfl nb
theorem fe_mk0 (xd : X0cD X.K X.mg cn) (hg : Gl X cn) (ha : FE X e fe) (hdb : NotDebug cn := by decide) (he : Plain1 X e [] := by rfl) : FE X (.Call (.Name cn p) [e] [] pos) (mk0 cn fe) := fun F => by
  obtain ⟨C, hm, q0, kC⟩ := xd.ex
  refine PE.wk (pe_exc1 PySem.F.excBase_ValueError q0 hm kC hg (ha F) he hdb) fun σ H Q q => ?_
  obtain ⟨O, ρ, w, r, ρ', w', S, ey, kk⟩ := q
  refine tE_then S ey fun v O1 ρ1 w1 H1 r1 S1 e1 R1 h1 a na => ?_
  cases h1
  have x2 : Ex H1 (upd H1 a (ExO (.ref C) a)) := Ex.new na
  have off : a ∉ O1 := fun z => by
    obtain ⟨o, q, _⟩ := S1.trk a z
    rw [na] at q
    cases q
  exact kk (.ref a) O1 _ (S1.grow x2) (e1.trans (vis_mono x2)) (Rep.exo (C := C) (by rw [vis_out off, upd_same]) hm)
end
end FD

end sec_XV
section sec_Dens
set_option maxRecDepth 100000
set_option maxHeartbeats 4000000
/-! printed by gen.py: the denotations -/
namespace KL
open PySem L2 FD
noncomputable section
variable [Tabl]
def bt_ValueError : String → Bool := fun T => T == "ValueError"
def ic_ValueError : List (Str × Bool) := []
def bt_MeanError : String → Bool := fun T => false
def ic_MeanError : List (Str × Bool) := []
def bt_NothingLeft : String → Bool := fun T => false
def ic_NothingLeft : List (Str × Bool) := []
def bt_NoTable : String → Bool := fun T => false
def ic_NoTable : List (Str × Bool) := []
def bt_BadText : String → Bool := fun T => false
def ic_BadText : List (Str × Bool) := []
def bt_BadLog : String → Bool := fun T => false
def ic_BadLog : List (Str × Bool) := []
def bt_NoProduct : String → Bool := fun T => false
def ic_NoProduct : List (Str × Bool) := []
def bt_NotKept : String → Bool := fun T => false
def ic_NotKept : List (Str × Bool) := []
def bt_TooMany : String → Bool := fun T => false
def ic_TooMany : List (Str × Bool) := []
def bt_BadLevel : String → Bool := fun T => false
def ic_BadLevel : List (Str × Bool) := []
def bt_BadWeight : String → Bool := fun T => false
def ic_BadWeight : List (Str × Bool) := []
def bt_NoPlace : String → Bool := fun T => false
def ic_NoPlace : List (Str × Bool) := []
def bt_BadRow : String → Bool := fun T => false
def ic_BadRow : List (Str × Bool) := []
def bt_BadDependence : String → Bool := fun T => false
def ic_BadDependence : List (Str × Bool) := []
def bt_BadSet : String → Bool := fun T => false
def ic_BadSet : List (Str × Bool) := []
def bt_BadColumns : String → Bool := fun T => false
def ic_BadColumns : List (Str × Bool) := []
def bt_BadNumber : String → Bool := fun T => false
def ic_BadNumber : List (Str × Bool) := []
def xi_BadColumns : List (Str × Bool) := [("MeanError", false), ("BadText", false), ("BadLevel", false), ("BadRow", false), ("BadSet", false), ("BadNumber", false), ("NothingLeft", false), ("NoTable", false), ("BadLog", false), ("NoProduct", false), ("NotKept", false), ("TooMany", false), ("BadWeight", false), ("NoPlace", false), ("BadDependence", false), ("BadColumns", true)]
def xi_BadDependence : List (Str × Bool) := [("MeanError", false), ("BadText", false), ("BadLevel", false), ("BadRow", false), ("BadSet", false), ("BadNumber", false), ("NothingLeft", false), ("NoTable", false), ("BadLog", false), ("NoProduct", false), ("NotKept", false), ("TooMany", false), ("BadWeight", false), ("NoPlace", false), ("BadDependence", true), ("BadColumns", false)]
def xi_BadLevel : List (Str × Bool) := [("MeanError", false), ("BadText", false), ("BadLevel", true), ("BadRow", false), ("BadSet", false), ("BadNumber", false), ("NothingLeft", false), ("NoTable", false), ("BadLog", false), ("NoProduct", false), ("NotKept", false), ("TooMany", false), ("BadWeight", false), ("NoPlace", false), ("BadDependence", false), ("BadColumns", false)]
def xi_BadLog : List (Str × Bool) := [("MeanError", false), ("BadText", false), ("BadLevel", false), ("BadRow", false), ("BadSet", false), ("BadNumber", false), ("NothingLeft", false), ("NoTable", false), ("BadLog", true), ("NoProduct", false), ("NotKept", false), ("TooMany", false), ("BadWeight", false), ("NoPlace", false), ("BadDependence", false), ("BadColumns", false)]
def xi_BadNumber : List (Str × Bool) := [("MeanError", false), ("BadText", false), ("BadLevel", false), ("BadRow", false), ("BadSet", false), ("BadNumber", true), ("NothingLeft", false), ("NoTable", false), ("BadLog", false), ("NoProduct", false), ("NotKept", false), ("TooMany", false), ("BadWeight", false), ("NoPlace", false), ("BadDependence", false), ("BadColumns", false)]
def xi_BadRow : List (Str × Bool) := [("MeanError", false), ("BadText", false), ("BadLevel", false), ("BadRow", true), ("BadSet", false), ("BadNumber", false), ("NothingLeft", false), ("NoTable", false), ("BadLog", false), ("NoProduct", false), ("NotKept", false), ("TooMany", false), ("BadWeight", false), ("NoPlace", false), ("BadDependence", false), ("BadColumns", false)]
def xi_BadSet : List (Str × Bool) := [("MeanError", false), ("BadText", false), ("BadLevel", false), ("BadRow", false), ("BadSet", true), ("BadNumber", false), ("NothingLeft", false), ("NoTable", false), ("BadLog", false), ("NoProduct", false), ("NotKept", false), ("TooMany", false), ("BadWeight", false), ("NoPlace", false), ("BadDependence", false), ("BadColumns", false)]
def xi_BadText : List (Str × Bool) := [("MeanError", false), ("BadText", true), ("BadLevel", false), ("BadRow", false), ("BadSet", false), ("BadNumber", false), ("NothingLeft", false), ("NoTable", false), ("BadLog", false), ("NoProduct", false), ("NotKept", false), ("TooMany", false), ("BadWeight", false), ("NoPlace", false), ("BadDependence", false), ("BadColumns", false)]
def xi_BadWeight : List (Str × Bool) := [("MeanError", false), ("BadText", false), ("BadLevel", false), ("BadRow", false), ("BadSet", false), ("BadNumber", false), ("NothingLeft", false), ("NoTable", false), ("BadLog", false), ("NoProduct", false), ("NotKept", false), ("TooMany", false), ("BadWeight", true), ("NoPlace", false), ("BadDependence", false), ("BadColumns", false)]
def xi_MeanError : List (Str × Bool) := [("MeanError", true), ("BadText", true), ("BadLevel", true), ("BadRow", true), ("BadSet", true), ("BadNumber", true), ("NothingLeft", true), ("NoTable", true), ("BadLog", true), ("NoProduct", true), ("NotKept", true), ("TooMany", true), ("BadWeight", true), ("NoPlace", true), ("BadDependence", true), ("BadColumns", true)]
def xi_NoPlace : List (Str × Bool) := [("MeanError", false), ("BadText", false), ("BadLevel", false), ("BadRow", false), ("BadSet", false), ("BadNumber", false), ("NothingLeft", false), ("NoTable", false), ("BadLog", false), ("NoProduct", false), ("NotKept", false), ("TooMany", false), ("BadWeight", false), ("NoPlace", true), ("BadDependence", false), ("BadColumns", false)]
def xi_NoProduct : List (Str × Bool) := [("MeanError", false), ("BadText", false), ("BadLevel", false), ("BadRow", false), ("BadSet", false), ("BadNumber", false), ("NothingLeft", false), ("NoTable", false), ("BadLog", false), ("NoProduct", true), ("NotKept", false), ("TooMany", false), ("BadWeight", false), ("NoPlace", false), ("BadDependence", false), ("BadColumns", false)]
def xi_NoTable : List (Str × Bool) := [("MeanError", false), ("BadText", false), ("BadLevel", false), ("BadRow", false), ("BadSet", false), ("BadNumber", false), ("NothingLeft", false), ("NoTable", true), ("BadLog", false), ("NoProduct", false), ("NotKept", false), ("TooMany", false), ("BadWeight", false), ("NoPlace", false), ("BadDependence", false), ("BadColumns", false)]
def xi_NotKept : List (Str × Bool) := [("MeanError", false), ("BadText", false), ("BadLevel", false), ("BadRow", false), ("BadSet", false), ("BadNumber", false), ("NothingLeft", false), ("NoTable", false), ("BadLog", false), ("NoProduct", false), ("NotKept", true), ("TooMany", false), ("BadWeight", false), ("NoPlace", false), ("BadDependence", false), ("BadColumns", false)]
def xi_NothingLeft : List (Str × Bool) := [("MeanError", false), ("BadText", false), ("BadLevel", false), ("BadRow", false), ("BadSet", false), ("BadNumber", false), ("NothingLeft", true), ("NoTable", false), ("BadLog", false), ("NoProduct", false), ("NotKept", false), ("TooMany", false), ("BadWeight", false), ("NoPlace", false), ("BadDependence", false), ("BadColumns", false)]
def xi_TooMany : List (Str × Bool) := [("MeanError", false), ("BadText", false), ("BadLevel", false), ("BadRow", false), ("BadSet", false), ("BadNumber", false), ("NothingLeft", false), ("NoTable", false), ("BadLog", false), ("NoProduct", false), ("NotKept", false), ("TooMany", true), ("BadWeight", false), ("NoPlace", false), ("BadDependence", false), ("BadColumns", false)]
def xi_ValueError : List (Str × Bool) := [("MeanError", true), ("BadText", true), ("BadLevel", true), ("BadRow", true), ("BadSet", true), ("BadNumber", true), ("NothingLeft", true), ("NoTable", true), ("BadLog", true), ("NoProduct", true), ("NotKept", true), ("TooMany", true), ("BadWeight", true), ("NoPlace", true), ("BadDependence", true), ("BadColumns", true)]
def xf_at : List Str := ["BadRow", "BadLog", "NoProduct", "NotKept", "BadDependence"]
def xf_given : List Str := ["BadColumns"]
def xf_letters : List Str := ["BadLevel", "BadSet"]
def xf_limit : List Str := ["TooMany"]
def xf_number : List Str := ["BadNumber"]
def xf_place : List Str := ["BadText", "NoPlace"]
def xf_weight : List Str := ["BadWeight"]
def d1_law_begun : M Fl := (setM' 1 (lcM (bindM (varM 0) iterM) [2] (gNameM 2) (boolM (op2M geD (bM absD (consA (varM 2) (pureM []))) (op2M (intD powI) (pureM (.sh (.int 10))) (pureM (.sh (.int 18)))))) (op2M subD (bM absD (consA (varM 2) (pureM []))) (op2M (intD powI) (pureM (.sh (.int 10))) (pureM (.sh (.int 18)))))))
def d2_law_begun : M RV := (lcM (bindM (varM 0) iterM) [2] (gNameM 2) (pureM true) (op2M (intD modI) (bM intFD (consA (bM absD (consA (varM 2) (pureM []))) (pureM []))) (pureM (.sh (.int 2147483629)))))
def beg : List Int → Option (List Int × List Int) := begD 3 d1_law_begun d2_law_begun 1
def d_law_kinds : M Fl := (seqM (setM' 1 (lstM (consA (alt (isiM bt_BadNumber ic_BadNumber (varM 0)) (op1M (isxD xi_BadNumber) (varM 0))) (consA (alt (isiM bt_BadColumns ic_BadColumns (varM 0)) (op1M (isxD xi_BadColumns) (varM 0))) (consA (alt (isiM bt_BadSet ic_BadSet (varM 0)) (op1M (isxD xi_BadSet) (varM 0))) (pureM []))))))
  (seqM (setM' 1 (op2M addD (varM 1) (lstM (consA (alt (isiM bt_BadDependence ic_BadDependence (varM 0)) (op1M (isxD xi_BadDependence) (varM 0))) (consA (alt (isiM bt_BadRow ic_BadRow (varM 0)) (op1M (isxD xi_BadRow) (varM 0))) (consA (alt (isiM bt_NoPlace ic_NoPlace (varM 0)) (op1M (isxD xi_NoPlace) (varM 0))) (pureM [])))))))
  (seqM (setM' 1 (op2M addD (varM 1) (lstM (consA (alt (isiM bt_BadWeight ic_BadWeight (varM 0)) (op1M (isxD xi_BadWeight) (varM 0))) (consA (alt (isiM bt_BadLevel ic_BadLevel (varM 0)) (op1M (isxD xi_BadLevel) (varM 0))) (consA (alt (isiM bt_TooMany ic_TooMany (varM 0)) (op1M (isxD xi_TooMany) (varM 0))) (pureM [])))))))
  (seqM (setM' 1 (op2M addD (varM 1) (lstM (consA (alt (isiM bt_NotKept ic_NotKept (varM 0)) (op1M (isxD xi_NotKept) (varM 0))) (consA (alt (isiM bt_NoProduct ic_NoProduct (varM 0)) (op1M (isxD xi_NoProduct) (varM 0))) (consA (alt (isiM bt_BadLog ic_BadLog (varM 0)) (op1M (isxD xi_BadLog) (varM 0))) (pureM [])))))))
  (retM (op2M addD (varM 1) (lstM (consA (alt (isiM bt_BadText ic_BadText (varM 0)) (op1M (isxD xi_BadText) (varM 0))) (consA (alt (isiM bt_NoTable ic_NoTable (varM 0)) (op1M (isxD xi_NoTable) (varM 0))) (consA (alt (isiM bt_NothingLeft ic_NothingLeft (varM 0)) (op1M (isxD xi_NothingLeft) (varM 0))) (pureM [])))))))))))
abbrev D_law_kinds : List D → W → Option (RV × W) := denB 2 d_law_kinds
def d_law_mixed : M Fl := (seqM (parSt [1, 2] (pend1 (op2M addD (drI W.turn (varM 0)) (pureM (.sh (.int 1)))) (pend1 (pureM (.sh (.int 0))) (pureM []))))
  (seqM (drSet (fun w i => { w with turn := i }) (varM 1) (varM 0))
  (seqM (forM (bindM (lstM (consA (pureM (.sh (.int 2147483629))) (consA (pureM (.sh (.int 2147483587))) (consA (pureM (.sh (.int 2147483579))) (consA (pureM (.sh (.int 2147483563))) (pureM [])))))) iterM) (gNameM 3)
   (seqM (setM' 4 (op2M addD (op2M mulD (pureM (.sh (.int 61441))) (varM 1)) (op2M (intD fdivI) (varM 3) (pureM (.sh (.int 19))))))
  (seqM (forM (drC (varM 0)) (gNameM 5)
   (setM' 4 (op2M (intD modI) (bM intFD (consA (op2M addD (op2M addD (op2M mulD (varM 4) (pureM (.sh (.int 48271)))) (varM 5)) (varM 1)) (pureM []))) (varM 3))))
  (setM' 2 (op2M addD (op2M mulD (varM 2) (pureM (.sh (.int 2147483647)))) (op2M (intD modI) (bM intFD (consA (op2M (intD powI) (varM 4) (pureM (.sh (.int 5)))) (pureM []))) (varM 3)))))))
  (retM (varM 2)))))
abbrev D_law_mixed : List D → W → Option (RV × W) := denB 6 d_law_mixed
def d_law_take : M Fl := (seqM (ifM (boolM (op2M eqD (drI W.rest (varM 0)) (pureM (.sh (.int 0))))) (drSet (fun w i => { w with rest := i }) (ifM (drT (fun w => !w.wide.isEmpty) (varM 0)) (drPop (varM 0)) (callM D_law_mixed [] (consA (varM 0) (pureM [])))) (varM 0)) (pureM .nx))
  (seqM (setM' 2 (op2M (intD modI) (bM intFD (consA (drI W.rest (varM 0)) (pureM []))) (varM 1)))
  (seqM (drSet (fun w i => { w with rest := i }) (op2M (intD fdivI) (drI W.rest (varM 0)) (varM 1)) (varM 0))
  (retM (varM 2)))))
abbrev D_law_take : List D → W → Option (RV × W) := denB 3 d_law_take
def d_law_pick : M Fl := (retM (op2M ixD (varM 1) (callM D_law_take [] (consA (varM 0) (consA (bM lenD (consA (varM 1) (pureM []))) (pureM []))))))
abbrev D_law_pick : List D → W → Option (RV × W) := denB 2 d_law_pick
def d_law_odd : M Fl := (seqM (setM' 1 (lstM (consA (pureM (.sh .non)) (consA (pureM (.sh (.bl true))) (consA (pureM (.sh (.bl false))) (consA (op1M negD (pureM (.sh (.int 1)))) (consA (op1M negD (pureM (.sh (.int 7)))) (consA (op2M (intD powI) (pureM (.sh (.int 10))) (pureM (.sh (.int 40)))) (consA (pureM (.sh (.str ""))) (consA (pureM (.sh (.str "a"))) (consA (pureM (.sh (.str "z"))) (consA (pureM (.sh (.str "ba"))) (consA (pureM (.sh (.str "aa"))) (consA (pureM (.sh (.str "R"))) (consA (tupM (pureM [])) (consA (tupM (consA (pureM (.sh (.int 0))) (pureM []))) (consA (tupM (consA (pureM (.sh (.str "a"))) (consA (pureM (.sh (.str "b"))) (pureM [])))) (consA (lstM (pureM [])) (consA (lstM (consA (pureM (.sh (.int 1))) (pureM []))) (consA (pureM (.fr (.dic []))) (consA (pureM (.sh (.int 0))) (consA (pureM (.sh (.int 7))) (pureM [])))))))))))))))))))))))
  (seqM (setM' 1 (op2M addD (varM 1) (lstM (consA (lstM (consA (lstM (pureM [])) (pureM []))) (consA (tupM (consA (pureM (.sh (.bl true))) (pureM []))) (consA (tupM (consA (pureM (.sh (.int 0))) (consA (pureM (.sh .non)) (pureM [])))) (consA (pureM (.sh (.str "1"))) (consA (tupM (consA (pureM (.sh (.str ""))) (pureM []))) (consA (op1M negD (op2M (intD powI) (pureM (.sh (.int 10))) (pureM (.sh (.int 20))))) (consA (tupM (consA (pureM (.sh (.int 1))) (consA (pureM (.sh (.int 1))) (pureM [])))) (consA (pureM (.sh (.str "abcdr"))) (consA (pureM (.sh (.str "abr "))) (consA (pureM (.fr (.dic [(.str "a", .int 1)]))) (pureM []))))))))))))))
  (retM (callM D_law_pick [] (consA (varM 0) (consA (varM 1) (pureM [])))))))
abbrev D_law_odd : List D → W → Option (RV × W) := denB 2 d_law_odd
def d_law : M Fl := (seqM (forM (bindM (consA (op2M addD (pureM (.sh (.int 2))) (bM minD (consA (bM lenD (consA (varM 0) (pureM []))) (consA (pureM (.sh (.int 8))) (pureM []))))) (pureM [])) rangeM) (gNameM 2)
   (seqM (parSt [6, 7] (pend1 (callM D_law_odd [] (consA (varM 1) (pureM []))) (pend1 (callM D_law_odd [] (consA (varM 1) (pureM []))) (pureM []))))
  (seqM (setM' 3 (lstM (consA (mkX "BadNumber" "number" (consA (varM 6) (pureM []))) (consA (mkX "BadColumns" "given" (consA (varM 6) (pureM []))) (consA (mkX "BadSet" "letters" (consA (varM 6) (pureM []))) (consA (mkX "BadDependence" "at" (consA (varM 6) (pureM []))) (consA (mkX "BadRow" "at" (consA (varM 6) (pureM []))) (pureM []))))))))
  (seqM (setM' 3 (op2M addD (varM 3) (lstM (consA (mkX "NoPlace" "place" (consA (varM 6) (pureM []))) (consA (mkX "BadWeight" "weight" (consA (varM 6) (pureM []))) (consA (mkX "BadLevel" "letters" (consA (varM 6) (pureM []))) (consA (mkX "TooMany" "limit" (consA (varM 6) (pureM []))) (consA (mkX "NotKept" "at" (consA (varM 6) (pureM []))) (pureM [])))))))))
  (seqM (setM' 3 (op2M addD (varM 3) (lstM (consA (mkX "NoProduct" "at" (consA (varM 6) (pureM []))) (consA (mkX "BadLog" "at" (consA (varM 6) (pureM []))) (consA (mkX "BadText" "place" (consA (varM 6) (pureM []))) (consA (mk0 "NoTable" (pureM (.sh (.str "told")))) (consA (mk0 "NothingLeft" (pureM (.sh (.str "told")))) (pureM [])))))))))
  (seqM (forM (enumM (varM 3)) (gTupM (gConsM (gNameM 8) (gConsM (gNameM 9) gNilM)))
   (seqM (ifM (orT (notT (boolM (alt (isiM bt_MeanError ic_MeanError (varM 9)) (op1M (isxD xi_MeanError) (varM 9))))) (notT (boolM (alt (isiM bt_ValueError ic_ValueError (varM 9)) (op1M (isxD xi_ValueError) (varM 9)))))) (retM (pureM (.sh (.bl false)))) (pureM .nx))
  (ifM (boolM (op2M neD (callM D_law_kinds [] (consA (varM 9) (pureM []))) (lcM (bindM (consA (pureM (.sh (.int 15))) (pureM [])) rangeM) [10] (gNameM 10) (pureM true) (op2M eqD (varM 10) (varM 8))))) (retM (pureM (.sh (.bl false)))) (pureM .nx))))
  (seqM (setM' 4 (lstM (consA (op1M (xfD xf_number "number") (op2M ixD (varM 3) (pureM (.sh (.int 0))))) (consA (op1M (xfD xf_given "given") (op2M ixD (varM 3) (pureM (.sh (.int 1))))) (consA (op1M (xfD xf_letters "letters") (op2M ixD (varM 3) (pureM (.sh (.int 2))))) (consA (op1M (xfD xf_at "at") (op2M ixD (varM 3) (pureM (.sh (.int 3))))) (consA (op1M (xfD xf_at "at") (op2M ixD (varM 3) (pureM (.sh (.int 4))))) (consA (op1M (xfD xf_place "place") (op2M ixD (varM 3) (pureM (.sh (.int 5))))) (consA (op1M (xfD xf_weight "weight") (op2M ixD (varM 3) (pureM (.sh (.int 6))))) (pureM []))))))))))
  (seqM (setM' 4 (op2M addD (varM 4) (lstM (consA (op1M (xfD xf_letters "letters") (op2M ixD (varM 3) (pureM (.sh (.int 7))))) (consA (op1M (xfD xf_limit "limit") (op2M ixD (varM 3) (pureM (.sh (.int 8))))) (consA (op1M (xfD xf_at "at") (op2M ixD (varM 3) (pureM (.sh (.int 9))))) (consA (op1M (xfD xf_at "at") (op2M ixD (varM 3) (pureM (.sh (.int 10))))) (consA (op1M (xfD xf_at "at") (op2M ixD (varM 3) (pureM (.sh (.int 11))))) (consA (op1M (xfD xf_place "place") (op2M ixD (varM 3) (pureM (.sh (.int 12))))) (pureM []))))))))))
  (seqM (ifM (boolM (op2M neD (bM (orN reprS reprQ) (consA (varM 4) (pureM []))) (bM (orN reprS reprQ) (consA (op2M repD (lstM (consA (varM 6) (pureM []))) (pureM (.sh (.int 13)))) (pureM []))))) (retM (pureM (.sh (.bl false)))) (pureM .nx))
  (seqM (setM' 5 (lstM (consA (mkX "BadNumber" "number" (consA (varM 7) (pureM []))) (consA (mkX "BadSet" "letters" (consA (varM 7) (pureM []))) (consA (mkX "BadRow" "at" (consA (varM 7) (pureM []))) (consA (mkX "BadLevel" "letters" (consA (varM 7) (pureM []))) (consA (mkX "BadText" "place" (consA (varM 7) (pureM []))) (pureM []))))))))
  (ifM (boolM (op2M neD (bM (orN reprS reprQ) (consA (lstM (consA (op1M (xfD xf_number "number") (op2M ixD (varM 5) (pureM (.sh (.int 0))))) (consA (op1M (xfD xf_letters "letters") (op2M ixD (varM 5) (pureM (.sh (.int 1))))) (consA (op1M (xfD xf_at "at") (op2M ixD (varM 5) (pureM (.sh (.int 2))))) (consA (op1M (xfD xf_letters "letters") (op2M ixD (varM 5) (pureM (.sh (.int 3))))) (consA (op1M (xfD xf_place "place") (op2M ixD (varM 5) (pureM (.sh (.int 4))))) (pureM []))))))) (pureM []))) (bM (orN reprS reprQ) (consA (op2M repD (lstM (consA (varM 7) (pureM []))) (pureM (.sh (.int 5)))) (pureM []))))) (retM (pureM (.sh (.bl false)))) (pureM .nx))))))))))))
  (seqM (setM' 11 (mk0 "MeanError" (pureM (.sh (.str "told")))))
  (retM (andM (op2M (inF true) (pureM (.sh (.bl true))) (callM D_law_kinds [] (consA (varM 11) (pureM [])))) (alt (isiM bt_ValueError ic_ValueError (varM 11)) (op1M (isxD xi_ValueError) (varM 11)))))))
def law : List Int → Bool := denL 12 beg d_law
/-! defs that the law does not reach -/
end
end KL

end sec_Dens
section sec_Ders
set_option maxRecDepth 100000
set_option maxHeartbeats 4000000
/-! printed by gen.py: the defs that the law reaches, their denotations and derivations -/
namespace KL
open PySem L2 FD
open PyProof.Rows (envOfC)
def top (i : Nat) : Stmt := PySem.Challenge.pw_meanways_k01_errors_made.main.body.getD i (.Pass ⟨0, 0, 0, 0⟩)
abbrev s_law_begun : Stmt := top 18
abbrev s_law_kinds : Stmt := top 23
abbrev s_law_mixed : Stmt := top 19
abbrev s_law_take : Stmt := top 20
abbrev s_law_pick : Stmt := top 21
abbrev s_law_odd : Stmt := top 22
abbrev s_law : Stmt := top 24
abbrev s_BadText_init : Stmt := inClass (top 14) 0
theorem sc_BadText_init : FnScope ["self", "place"] ["self", "place"] (defScope s_BadText_init) := C8.fnScope_by (by decide +kernel)
abbrev s_BadLevel_init : Stmt := inClass (top 9) 0
theorem sc_BadLevel_init : FnScope ["self", "letters"] ["self", "letters"] (defScope s_BadLevel_init) := C8.fnScope_by (by decide +kernel)
abbrev s_BadRow_init : Stmt := inClass (top 6) 0
theorem sc_BadRow_init : FnScope ["self", "at"] ["self", "at"] (defScope s_BadRow_init) := C8.fnScope_by (by decide +kernel)
abbrev s_BadSet_init : Stmt := inClass (top 4) 0
theorem sc_BadSet_init : FnScope ["self", "letters"] ["self", "letters"] (defScope s_BadSet_init) := C8.fnScope_by (by decide +kernel)
abbrev s_BadNumber_init : Stmt := inClass (top 2) 0
theorem sc_BadNumber_init : FnScope ["self", "number"] ["self", "number"] (defScope s_BadNumber_init) := C8.fnScope_by (by decide +kernel)
abbrev s_BadLog_init : Stmt := inClass (top 13) 0
theorem sc_BadLog_init : FnScope ["self", "at"] ["self", "at"] (defScope s_BadLog_init) := C8.fnScope_by (by decide +kernel)
abbrev s_NoProduct_init : Stmt := inClass (top 12) 0
theorem sc_NoProduct_init : FnScope ["self", "at"] ["self", "at"] (defScope s_NoProduct_init) := C8.fnScope_by (by decide +kernel)
abbrev s_NotKept_init : Stmt := inClass (top 11) 0
theorem sc_NotKept_init : FnScope ["self", "at"] ["self", "at"] (defScope s_NotKept_init) := C8.fnScope_by (by decide +kernel)
abbrev s_TooMany_init : Stmt := inClass (top 10) 0
theorem sc_TooMany_init : FnScope ["self", "limit"] ["self", "limit"] (defScope s_TooMany_init) := C8.fnScope_by (by decide +kernel)
abbrev s_BadWeight_init : Stmt := inClass (top 8) 0
theorem sc_BadWeight_init : FnScope ["self", "weight"] ["self", "weight"] (defScope s_BadWeight_init) := C8.fnScope_by (by decide +kernel)
abbrev s_NoPlace_init : Stmt := inClass (top 7) 0
theorem sc_NoPlace_init : FnScope ["self", "place"] ["self", "place"] (defScope s_NoPlace_init) := C8.fnScope_by (by decide +kernel)
abbrev s_BadDependence_init : Stmt := inClass (top 5) 0
theorem sc_BadDependence_init : FnScope ["self", "at"] ["self", "at"] (defScope s_BadDependence_init) := C8.fnScope_by (by decide +kernel)
abbrev s_BadColumns_init : Stmt := inClass (top 3) 0
theorem sc_BadColumns_init : FnScope ["self", "given"] ["self", "given"] (defScope s_BadColumns_init) := C8.fnScope_by (by decide +kernel)
structure Gt [Tabl] (K : PySem.W.Frag) (mg : Str → Option Value) : Prop where
  n_ValueError : mg "ValueError" = none
  n_abs : mg "abs" = none
  n_enumerate : mg "enumerate" = none
  n_int : mg "int" = none
  n_isinstance : mg "isinstance" = none
  n_len : mg "len" = none
  n_min : mg "min" = none
  n_range : mg "range" = none
  n_repr : mg "repr" = none
  i_ValueError : KndD K mg (fun t b => PySem.W.kitOne K t (.type "ValueError") = some b) bt_ValueError ic_ValueError
  i_MeanError : IsiC K mg "MeanError" bt_MeanError ic_MeanError
  i_NothingLeft : IsiC K mg "NothingLeft" bt_NothingLeft ic_NothingLeft
  i_NoTable : IsiC K mg "NoTable" bt_NoTable ic_NoTable
  i_BadText : IsiC K mg "BadText" bt_BadText ic_BadText
  i_BadLog : IsiC K mg "BadLog" bt_BadLog ic_BadLog
  i_NoProduct : IsiC K mg "NoProduct" bt_NoProduct ic_NoProduct
  i_NotKept : IsiC K mg "NotKept" bt_NotKept ic_NotKept
  i_TooMany : IsiC K mg "TooMany" bt_TooMany ic_TooMany
  i_BadLevel : IsiC K mg "BadLevel" bt_BadLevel ic_BadLevel
  i_BadWeight : IsiC K mg "BadWeight" bt_BadWeight ic_BadWeight
  i_NoPlace : IsiC K mg "NoPlace" bt_NoPlace ic_NoPlace
  i_BadRow : IsiC K mg "BadRow" bt_BadRow ic_BadRow
  i_BadDependence : IsiC K mg "BadDependence" bt_BadDependence ic_BadDependence
  i_BadSet : IsiC K mg "BadSet" bt_BadSet ic_BadSet
  i_BadColumns : IsiC K mg "BadColumns" bt_BadColumns ic_BadColumns
  i_BadNumber : IsiC K mg "BadNumber" bt_BadNumber ic_BadNumber
  xi_BadColumns : IsxC K mg "BadColumns" xi_BadColumns
  xi_BadDependence : IsxC K mg "BadDependence" xi_BadDependence
  xi_BadLevel : IsxC K mg "BadLevel" xi_BadLevel
  xi_BadLog : IsxC K mg "BadLog" xi_BadLog
  xi_BadNumber : IsxC K mg "BadNumber" xi_BadNumber
  xi_BadRow : IsxC K mg "BadRow" xi_BadRow
  xi_BadSet : IsxC K mg "BadSet" xi_BadSet
  xi_BadText : IsxC K mg "BadText" xi_BadText
  xi_BadWeight : IsxC K mg "BadWeight" xi_BadWeight
  xi_MeanError : IsxC K mg "MeanError" xi_MeanError
  xi_NoPlace : IsxC K mg "NoPlace" xi_NoPlace
  xi_NoProduct : IsxC K mg "NoProduct" xi_NoProduct
  xi_NoTable : IsxC K mg "NoTable" xi_NoTable
  xi_NotKept : IsxC K mg "NotKept" xi_NotKept
  xi_NothingLeft : IsxC K mg "NothingLeft" xi_NothingLeft
  xi_TooMany : IsxC K mg "TooMany" xi_TooMany
  xi_ValueError : KxD K mg (fun t b => PySem.W.kitOne K t (.type "ValueError") = some b) xi_ValueError
  xf_at : KfD K mg xf_at "at"
  xf_given : KfD K mg xf_given "given"
  xf_letters : KfD K mg xf_letters "letters"
  xf_limit : KfD K mg xf_limit "limit"
  xf_number : KfD K mg xf_number "number"
  xf_place : KfD K mg xf_place "place"
  xf_weight : KfD K mg xf_weight "weight"
  x0_MeanError : X0cD K mg "MeanError"
  x0_NothingLeft : X0cD K mg "NothingLeft"
  x0_NoTable : X0cD K mg "NoTable"
section
variable [Tabl] {P : Program} {w : World} {K : PySem.W.Frag} {mg : Str → Option Value} {base : Heap}
/-! _law_begun -/
theorem sc_law_begun : FnScope ["_law_script", "_law_wide", "_law_cell"] ["_law_script"] (defScope s_law_begun) := C8.fnScope_by (by decide +kernel)
theorem ok_law_begun {f : Addr} {fd : FuncData} (G : Gt K mg) (F : Fun K "_law_begun" "_law_begun" s_law_begun f fd) : FnOk P w K mg base CX0 2 f fd ["_law_script"] (spB ⟨K, mg⟩ beg) :=
  have sc := sc_law_begun
  begun_ok (k := 1) (i := 1) F sc rfl rfl (fun cdv A outer s H E hr => (fs_setLc rfl sc.nd (i := 1) rfl rfl rfl (own := [("_law_cell", 2)]) (fi_val (fe_var (i := 0) rfl (by first | exact Or.inl rfl | exact Or.inr (Or.inl rfl) | exact Or.inr (Or.inr rfl)))) (blkOk_by (by show blkC ["_law_script", "_law_wide", "_law_cell"] (defScope s_law_begun) _ [("_law_cell", 2)] = true; decide +kernel)) (fun _ _ _ _ _ => (fg_name (i := 2) sc.nd rfl (by first | exact Or.inl rfl | exact Or.inr rfl))) (fun _ _ _ _ _ => (fts_one (FC.ft (fc_data opD_ge (fe_b bD_abs rfl G.n_abs bo_abs (fa_cons (fe_var (i := 2) rfl (by first | exact Or.inl rfl | exact Or.inr (Or.inl rfl) | exact Or.inr (Or.inr rfl))) fa_nil)) (fe_op opD_pow fe_int fe_int) rfl)))) (fun _ _ _ _ _ => (fe_op opD_sub (fe_b bD_abs rfl G.n_abs bo_abs (fa_cons (fe_var (i := 2) rfl (by first | exact Or.inl rfl | exact Or.inr (Or.inl rfl) | exact Or.inr (Or.inr rfl))) fa_nil)) (fe_op opD_pow fe_int fe_int))))) (fun cdv A outer s H E hr => (fe_lc rfl sc.nd (own := [("_law_cell", 2)]) (fi_val (fe_var (i := 0) rfl (by first | exact Or.inl rfl | exact Or.inr (Or.inl rfl) | exact Or.inr (Or.inr rfl)))) (blkOk_by (by show blkC ["_law_script", "_law_wide", "_law_cell"] (defScope s_law_begun) _ [("_law_cell", 2)] = true; decide +kernel)) (fun _ _ _ _ _ => (fg_name (i := 2) sc.nd rfl (by first | exact Or.inl rfl | exact Or.inr rfl))) (fun _ _ _ _ _ => fts_nil) (fun _ _ _ _ _ => (fe_op opD_mod (fe_ty bD_int rfl G.n_int bo_int (fa_cons (fe_b bD_abs rfl G.n_abs bo_abs (fa_cons (fe_var (i := 2) rfl (by first | exact Or.inl rfl | exact Or.inr (Or.inl rfl) | exact Or.inr (Or.inr rfl))) fa_nil)) fa_nil)) fe_int)))) rfl (by first | exact Or.inl rfl | exact Or.inr (Or.inl rfl) | exact Or.inr (Or.inr rfl)) (by decide +kernel) (by decide +kernel)
/-! _law_kinds -/
theorem sc_law_kinds : FnScope ["_law_error", "_law_found"] ["_law_error"] (defScope s_law_kinds) := C8.fnScope_by (by decide +kernel)
theorem ok_law_kinds {f : Addr} {fd : FuncData} (G : Gt K mg) (F : Fun K "_law_kinds" "_law_kinds" s_law_kinds f fd) : FnOk P w K mg base CX0 2 f fd ["_law_error"] (spD ⟨K, mg⟩ 1 D_law_kinds) :=
  have sc := sc_law_kinds
  def_ok (k := 1) F sc (fun cdv A outer s H E hr => (fss_cons (fs_set (i := 1) sc.nd rfl (by first | exact Or.inl rfl | exact Or.inr rfl) (fe_lst (fa_cons (fe_alt (fe_isiC G.i_BadNumber rfl G.n_isinstance rfl (fe_var (i := 0) rfl (by first | exact Or.inl rfl | exact Or.inr (Or.inl rfl) | exact Or.inr (Or.inr rfl)))) (fe_isxC G.xi_BadNumber rfl G.n_isinstance rfl (fe_var (i := 0) rfl (by first | exact Or.inl rfl | exact Or.inr (Or.inl rfl) | exact Or.inr (Or.inr rfl))))) (fa_cons (fe_alt (fe_isiC G.i_BadColumns rfl G.n_isinstance rfl (fe_var (i := 0) rfl (by first | exact Or.inl rfl | exact Or.inr (Or.inl rfl) | exact Or.inr (Or.inr rfl)))) (fe_isxC G.xi_BadColumns rfl G.n_isinstance rfl (fe_var (i := 0) rfl (by first | exact Or.inl rfl | exact Or.inr (Or.inl rfl) | exact Or.inr (Or.inr rfl))))) (fa_cons (fe_alt (fe_isiC G.i_BadSet rfl G.n_isinstance rfl (fe_var (i := 0) rfl (by first | exact Or.inl rfl | exact Or.inr (Or.inl rfl) | exact Or.inr (Or.inr rfl)))) (fe_isxC G.xi_BadSet rfl G.n_isinstance rfl (fe_var (i := 0) rfl (by first | exact Or.inl rfl | exact Or.inr (Or.inl rfl) | exact Or.inr (Or.inr rfl))))) fa_nil)))))
  (fss_cons (fs_set (i := 1) sc.nd rfl (by first | exact Or.inl rfl | exact Or.inr rfl) (fe_op opD_add (fe_var (i := 1) rfl (by first | exact Or.inl rfl | exact Or.inr (Or.inl rfl) | exact Or.inr (Or.inr rfl))) (fe_lst (fa_cons (fe_alt (fe_isiC G.i_BadDependence rfl G.n_isinstance rfl (fe_var (i := 0) rfl (by first | exact Or.inl rfl | exact Or.inr (Or.inl rfl) | exact Or.inr (Or.inr rfl)))) (fe_isxC G.xi_BadDependence rfl G.n_isinstance rfl (fe_var (i := 0) rfl (by first | exact Or.inl rfl | exact Or.inr (Or.inl rfl) | exact Or.inr (Or.inr rfl))))) (fa_cons (fe_alt (fe_isiC G.i_BadRow rfl G.n_isinstance rfl (fe_var (i := 0) rfl (by first | exact Or.inl rfl | exact Or.inr (Or.inl rfl) | exact Or.inr (Or.inr rfl)))) (fe_isxC G.xi_BadRow rfl G.n_isinstance rfl (fe_var (i := 0) rfl (by first | exact Or.inl rfl | exact Or.inr (Or.inl rfl) | exact Or.inr (Or.inr rfl))))) (fa_cons (fe_alt (fe_isiC G.i_NoPlace rfl G.n_isinstance rfl (fe_var (i := 0) rfl (by first | exact Or.inl rfl | exact Or.inr (Or.inl rfl) | exact Or.inr (Or.inr rfl)))) (fe_isxC G.xi_NoPlace rfl G.n_isinstance rfl (fe_var (i := 0) rfl (by first | exact Or.inl rfl | exact Or.inr (Or.inl rfl) | exact Or.inr (Or.inr rfl))))) fa_nil))))))
  (fss_cons (fs_set (i := 1) sc.nd rfl (by first | exact Or.inl rfl | exact Or.inr rfl) (fe_op opD_add (fe_var (i := 1) rfl (by first | exact Or.inl rfl | exact Or.inr (Or.inl rfl) | exact Or.inr (Or.inr rfl))) (fe_lst (fa_cons (fe_alt (fe_isiC G.i_BadWeight rfl G.n_isinstance rfl (fe_var (i := 0) rfl (by first | exact Or.inl rfl | exact Or.inr (Or.inl rfl) | exact Or.inr (Or.inr rfl)))) (fe_isxC G.xi_BadWeight rfl G.n_isinstance rfl (fe_var (i := 0) rfl (by first | exact Or.inl rfl | exact Or.inr (Or.inl rfl) | exact Or.inr (Or.inr rfl))))) (fa_cons (fe_alt (fe_isiC G.i_BadLevel rfl G.n_isinstance rfl (fe_var (i := 0) rfl (by first | exact Or.inl rfl | exact Or.inr (Or.inl rfl) | exact Or.inr (Or.inr rfl)))) (fe_isxC G.xi_BadLevel rfl G.n_isinstance rfl (fe_var (i := 0) rfl (by first | exact Or.inl rfl | exact Or.inr (Or.inl rfl) | exact Or.inr (Or.inr rfl))))) (fa_cons (fe_alt (fe_isiC G.i_TooMany rfl G.n_isinstance rfl (fe_var (i := 0) rfl (by first | exact Or.inl rfl | exact Or.inr (Or.inl rfl) | exact Or.inr (Or.inr rfl)))) (fe_isxC G.xi_TooMany rfl G.n_isinstance rfl (fe_var (i := 0) rfl (by first | exact Or.inl rfl | exact Or.inr (Or.inl rfl) | exact Or.inr (Or.inr rfl))))) fa_nil))))))
  (fss_cons (fs_set (i := 1) sc.nd rfl (by first | exact Or.inl rfl | exact Or.inr rfl) (fe_op opD_add (fe_var (i := 1) rfl (by first | exact Or.inl rfl | exact Or.inr (Or.inl rfl) | exact Or.inr (Or.inr rfl))) (fe_lst (fa_cons (fe_alt (fe_isiC G.i_NotKept rfl G.n_isinstance rfl (fe_var (i := 0) rfl (by first | exact Or.inl rfl | exact Or.inr (Or.inl rfl) | exact Or.inr (Or.inr rfl)))) (fe_isxC G.xi_NotKept rfl G.n_isinstance rfl (fe_var (i := 0) rfl (by first | exact Or.inl rfl | exact Or.inr (Or.inl rfl) | exact Or.inr (Or.inr rfl))))) (fa_cons (fe_alt (fe_isiC G.i_NoProduct rfl G.n_isinstance rfl (fe_var (i := 0) rfl (by first | exact Or.inl rfl | exact Or.inr (Or.inl rfl) | exact Or.inr (Or.inr rfl)))) (fe_isxC G.xi_NoProduct rfl G.n_isinstance rfl (fe_var (i := 0) rfl (by first | exact Or.inl rfl | exact Or.inr (Or.inl rfl) | exact Or.inr (Or.inr rfl))))) (fa_cons (fe_alt (fe_isiC G.i_BadLog rfl G.n_isinstance rfl (fe_var (i := 0) rfl (by first | exact Or.inl rfl | exact Or.inr (Or.inl rfl) | exact Or.inr (Or.inr rfl)))) (fe_isxC G.xi_BadLog rfl G.n_isinstance rfl (fe_var (i := 0) rfl (by first | exact Or.inl rfl | exact Or.inr (Or.inl rfl) | exact Or.inr (Or.inr rfl))))) fa_nil))))))
  (fss_one (fs_ret (fe_op opD_add (fe_var (i := 1) rfl (by first | exact Or.inl rfl | exact Or.inr (Or.inl rfl) | exact Or.inr (Or.inr rfl))) (fe_lst (fa_cons (fe_alt (fe_isiC G.i_BadText rfl G.n_isinstance rfl (fe_var (i := 0) rfl (by first | exact Or.inl rfl | exact Or.inr (Or.inl rfl) | exact Or.inr (Or.inr rfl)))) (fe_isxC G.xi_BadText rfl G.n_isinstance rfl (fe_var (i := 0) rfl (by first | exact Or.inl rfl | exact Or.inr (Or.inl rfl) | exact Or.inr (Or.inr rfl))))) (fa_cons (fe_alt (fe_isiC G.i_NoTable rfl G.n_isinstance rfl (fe_var (i := 0) rfl (by first | exact Or.inl rfl | exact Or.inr (Or.inl rfl) | exact Or.inr (Or.inr rfl)))) (fe_isxC G.xi_NoTable rfl G.n_isinstance rfl (fe_var (i := 0) rfl (by first | exact Or.inl rfl | exact Or.inr (Or.inl rfl) | exact Or.inr (Or.inr rfl))))) (fa_cons (fe_alt (fe_isiC G.i_NothingLeft rfl G.n_isinstance rfl (fe_var (i := 0) rfl (by first | exact Or.inl rfl | exact Or.inr (Or.inl rfl) | exact Or.inr (Or.inr rfl)))) (fe_isxC G.xi_NothingLeft rfl G.n_isinstance rfl (fe_var (i := 0) rfl (by first | exact Or.inl rfl | exact Or.inr (Or.inl rfl) | exact Or.inr (Or.inr rfl))))) fa_nil))))))))))))
/-! _law_mixed -/
theorem sc_law_mixed : FnScope ["_law_draw", "_law_turn", "_law_found", "_law_prime", "_law_blend", "_law_cell"] ["_law_draw"] (defScope s_law_mixed) := C8.fnScope_by (by decide +kernel)
theorem ok_law_mixed {f : Addr} {fd : FuncData} (G : Gt K mg) (F : Fun K "_law_mixed" "_law_mixed" s_law_mixed f fd) : FnOk P w K mg base CX0 2 f fd ["_law_draw"] (spD ⟨K, mg⟩ 1 D_law_mixed) :=
  have sc := sc_law_mixed
  def_ok (k := 1) F sc (fun cdv A outer s H E hr => (fss_cons (fs_par2 rfl sc.nd (i := 1) (j := 2) rfl rfl (by decide) rfl rfl (fp_cons (fe_op opD_add (fe_drI hr (fe_var (i := 0) rfl (by first | exact Or.inl rfl | exact Or.inr (Or.inl rfl) | exact Or.inr (Or.inr rfl))) v_turn) fe_int) (fp_cons fe_int fp_nil)) rfl)
  (fss_cons (fs_drSet hr (fe_var (i := 0) rfl (by first | exact Or.inl rfl | exact Or.inr (Or.inl rfl) | exact Or.inr (Or.inr rfl))) (fe_var (i := 1) rfl (by first | exact Or.inl rfl | exact Or.inr (Or.inl rfl) | exact Or.inr (Or.inr rfl))) p_turn)
  (fss_cons (fs_for PassesOwn.never rfl (fi_val (fe_lst (fa_cons fe_int (fa_cons fe_int (fa_cons fe_int (fa_cons fe_int fa_nil)))))) (fg_name (i := 3) sc.nd rfl (by first | exact Or.inl rfl | exact Or.inr rfl))
   (fss_cons (fs_set (i := 4) sc.nd rfl (by first | exact Or.inl rfl | exact Or.inr rfl) (fe_op opD_add (fe_op opD_mul fe_int (fe_var (i := 1) rfl (by first | exact Or.inl rfl | exact Or.inr (Or.inl rfl) | exact Or.inr (Or.inr rfl)))) (fe_op opD_fdiv (fe_var (i := 3) rfl (by first | exact Or.inl rfl | exact Or.inr (Or.inl rfl) | exact Or.inr (Or.inr rfl))) fe_int)))
  (fss_cons (fs_for PassesOwn.never rfl (fi_drC hr (fe_var (i := 0) rfl (by first | exact Or.inl rfl | exact Or.inr (Or.inl rfl) | exact Or.inr (Or.inr rfl)))) (fg_name (i := 5) sc.nd rfl (by first | exact Or.inl rfl | exact Or.inr rfl))
   (fss_one (fs_set (i := 4) sc.nd rfl (by first | exact Or.inl rfl | exact Or.inr rfl) (fe_op opD_mod (fe_ty bD_int rfl G.n_int bo_int (fa_cons (fe_op opD_add (fe_op opD_add (fe_op opD_mul (fe_var (i := 4) rfl (by first | exact Or.inl rfl | exact Or.inr (Or.inl rfl) | exact Or.inr (Or.inr rfl))) fe_int) (fe_var (i := 5) rfl (by first | exact Or.inl rfl | exact Or.inr (Or.inl rfl) | exact Or.inr (Or.inr rfl)))) (fe_var (i := 1) rfl (by first | exact Or.inl rfl | exact Or.inr (Or.inl rfl) | exact Or.inr (Or.inr rfl)))) fa_nil)) (fe_var (i := 3) rfl (by first | exact Or.inl rfl | exact Or.inr (Or.inl rfl) | exact Or.inr (Or.inr rfl)))))))
  (fss_one (fs_set (i := 2) sc.nd rfl (by first | exact Or.inl rfl | exact Or.inr rfl) (fe_op opD_add (fe_op opD_mul (fe_var (i := 2) rfl (by first | exact Or.inl rfl | exact Or.inr (Or.inl rfl) | exact Or.inr (Or.inr rfl))) fe_int) (fe_op opD_mod (fe_ty bD_int rfl G.n_int bo_int (fa_cons (fe_op opD_pow (fe_var (i := 4) rfl (by first | exact Or.inl rfl | exact Or.inr (Or.inl rfl) | exact Or.inr (Or.inr rfl))) fe_int) fa_nil)) (fe_var (i := 3) rfl (by first | exact Or.inl rfl | exact Or.inr (Or.inl rfl) | exact Or.inr (Or.inr rfl))))))))))
  (fss_one (fs_ret (fe_var (i := 2) rfl (by first | exact Or.inl rfl | exact Or.inr (Or.inl rfl) | exact Or.inr (Or.inr rfl)))))))))
/-! _law_take -/
theorem sc_law_take : FnScope ["_law_draw", "_law_size", "_law_found"] ["_law_draw", "_law_size"] (defScope s_law_take) := C8.fnScope_by (by decide +kernel)
theorem ok_law_take {f : Addr} {fd : FuncData} (G : Gt K mg) (F : Fun K "_law_take" "_law_take" s_law_take f fd) (c_law_mixed : CalD P w K mg base 2 "_law_mixed" 1 [] D_law_mixed) : FnOk P w K mg base CX0 3 f fd ["_law_draw", "_law_size"] (spD ⟨K, mg⟩ 2 D_law_take) :=
  have sc := sc_law_take
  def_ok (k := 2) F sc (fun cdv A outer s H E hr => (fss_cons (fs_if (FC.ft (fc_data (opD_eq hr) (fe_drI hr (fe_var (i := 0) rfl (by first | exact Or.inl rfl | exact Or.inr (Or.inl rfl) | exact Or.inr (Or.inr rfl))) v_rest) fe_int rfl)) (fss_one (fs_drSet hr (fe_var (i := 0) rfl (by first | exact Or.inl rfl | exact Or.inr (Or.inl rfl) | exact Or.inr (Or.inr rfl))) (fe_ifExp (ft_drWide hr (fe_var (i := 0) rfl (by first | exact Or.inl rfl | exact Or.inr (Or.inl rfl) | exact Or.inr (Or.inr rfl)))) (fe_drPop hr (fe_var (i := 0) rfl (by first | exact Or.inl rfl | exact Or.inr (Or.inl rfl) | exact Or.inr (Or.inr rfl)))) (fe_call c_law_mixed hr rfl (fa_cons (fe_var (i := 0) rfl (by first | exact Or.inl rfl | exact Or.inr (Or.inl rfl) | exact Or.inr (Or.inr rfl))) fa_nil))) p_rest)) fss_nil)
  (fss_cons (fs_set (i := 2) sc.nd rfl (by first | exact Or.inl rfl | exact Or.inr rfl) (fe_op opD_mod (fe_ty bD_int rfl G.n_int bo_int (fa_cons (fe_drI hr (fe_var (i := 0) rfl (by first | exact Or.inl rfl | exact Or.inr (Or.inl rfl) | exact Or.inr (Or.inr rfl))) v_rest) fa_nil)) (fe_var (i := 1) rfl (by first | exact Or.inl rfl | exact Or.inr (Or.inl rfl) | exact Or.inr (Or.inr rfl)))))
  (fss_cons (fs_drSet hr (fe_var (i := 0) rfl (by first | exact Or.inl rfl | exact Or.inr (Or.inl rfl) | exact Or.inr (Or.inr rfl))) (fe_op opD_fdiv (fe_drI hr (fe_var (i := 0) rfl (by first | exact Or.inl rfl | exact Or.inr (Or.inl rfl) | exact Or.inr (Or.inr rfl))) v_rest) (fe_var (i := 1) rfl (by first | exact Or.inl rfl | exact Or.inr (Or.inl rfl) | exact Or.inr (Or.inr rfl)))) p_rest)
  (fss_one (fs_ret (fe_var (i := 2) rfl (by first | exact Or.inl rfl | exact Or.inr (Or.inl rfl) | exact Or.inr (Or.inr rfl)))))))))
/-! _law_pick -/
theorem sc_law_pick : FnScope ["_law_draw", "_law_some"] ["_law_draw", "_law_some"] (defScope s_law_pick) := C8.fnScope_by (by decide +kernel)
theorem ok_law_pick {f : Addr} {fd : FuncData} (G : Gt K mg) (F : Fun K "_law_pick" "_law_pick" s_law_pick f fd) (c_law_take : CalD P w K mg base 3 "_law_take" 2 [] D_law_take) : FnOk P w K mg base CX0 4 f fd ["_law_draw", "_law_some"] (spD ⟨K, mg⟩ 2 D_law_pick) :=
  have sc := sc_law_pick
  def_ok (k := 3) F sc (fun cdv A outer s H E hr => (fss_one (fs_ret (fe_ix ixD_ok (fe_var (i := 1) rfl (by first | exact Or.inl rfl | exact Or.inr (Or.inl rfl) | exact Or.inr (Or.inr rfl))) (fe_call c_law_take hr rfl (fa_cons (fe_var (i := 0) rfl (by first | exact Or.inl rfl | exact Or.inr (Or.inl rfl) | exact Or.inr (Or.inr rfl))) (fa_cons (fe_b bD_len rfl G.n_len bo_len (fa_cons (fe_var (i := 1) rfl (by first | exact Or.inl rfl | exact Or.inr (Or.inl rfl) | exact Or.inr (Or.inr rfl))) fa_nil)) fa_nil))) (fun _ _ => rfl)))))
/-! _law_odd -/
theorem sc_law_odd : FnScope ["_law_draw", "_law_some"] ["_law_draw"] (defScope s_law_odd) := C8.fnScope_by (by decide +kernel)
theorem ok_law_odd {f : Addr} {fd : FuncData} (G : Gt K mg) (F : Fun K "_law_odd" "_law_odd" s_law_odd f fd) (c_law_pick : CalD P w K mg base 4 "_law_pick" 2 [] D_law_pick) : FnOk P w K mg base CX0 5 f fd ["_law_draw"] (spD ⟨K, mg⟩ 1 D_law_odd) :=
  have sc := sc_law_odd
  def_ok (k := 4) F sc (fun cdv A outer s H E hr => (fss_cons (fs_set (i := 1) sc.nd rfl (by first | exact Or.inl rfl | exact Or.inr rfl) (fe_lst (fa_cons fe_non (fa_cons fe_bl (fa_cons fe_bl (fa_cons (fe_un unD_neg fe_int) (fa_cons (fe_un unD_neg fe_int) (fa_cons (fe_op opD_pow fe_int fe_int) (fa_cons fe_str (fa_cons fe_str (fa_cons fe_str (fa_cons fe_str (fa_cons fe_str (fa_cons fe_str (fa_cons (fe_tup fa_nil) (fa_cons (fe_tup (fa_cons fe_int fa_nil)) (fa_cons (fe_tup (fa_cons fe_str (fa_cons fe_str fa_nil))) (fa_cons (fe_lst fa_nil) (fa_cons (fe_lst (fa_cons fe_int fa_nil)) (fa_cons fe_dic0 (fa_cons fe_int (fa_cons fe_int fa_nil))))))))))))))))))))))
  (fss_cons (fs_set (i := 1) sc.nd rfl (by first | exact Or.inl rfl | exact Or.inr rfl) (fe_op opD_add (fe_var (i := 1) rfl (by first | exact Or.inl rfl | exact Or.inr (Or.inl rfl) | exact Or.inr (Or.inr rfl))) (fe_lst (fa_cons (fe_lst (fa_cons (fe_lst fa_nil) fa_nil)) (fa_cons (fe_tup (fa_cons fe_bl fa_nil)) (fa_cons (fe_tup (fa_cons fe_int (fa_cons fe_non fa_nil))) (fa_cons fe_str (fa_cons (fe_tup (fa_cons fe_str fa_nil)) (fa_cons (fe_un unD_neg (fe_op opD_pow fe_int fe_int)) (fa_cons (fe_tup (fa_cons fe_int (fa_cons fe_int fa_nil))) (fa_cons fe_str (fa_cons fe_str (fa_cons fe_dicS fa_nil)))))))))))))
  (fss_one (fs_ret (fe_call c_law_pick hr rfl (fa_cons (fe_var (i := 0) rfl (by first | exact Or.inl rfl | exact Or.inr (Or.inl rfl) | exact Or.inr (Or.inr rfl))) (fa_cons (fe_var (i := 1) rfl (by first | exact Or.inl rfl | exact Or.inr (Or.inl rfl) | exact Or.inr (Or.inr rfl))) fa_nil))))))))
/-! law -/
theorem sc_law : FnScope ["_law_script", "_law_draw", "_law_turn", "_law_made", "_law_told", "_law_more", "_law_one", "_law_other", "_law_at_here", "_law_error", "_law_k", "_law_plain"] ["_law_script"] (defScope s_law) := C8.fnScope_by (by decide +kernel)
theorem ok_law {f g : Addr} {fd fdg : FuncData} {psg : List Str} (G : Gt K mg) (F : Fun K "law" "law" s_law f fd) (FB : FnOk P w K mg base CX0 2 g fdg psg (spB ⟨K, mg⟩ beg)) (mb : mg "_law_begun" = some (.ref g)) (kpb : PySem.W.keepIn K (.ref g) = true) (bb : Binds K fdg psg []) (hS : SmB base) (xk_BadText : XckD P w K mg base "BadText" "place" "place") (xk_BadLevel : XckD P w K mg base "BadLevel" "letters" "letters") (xk_BadRow : XckD P w K mg base "BadRow" "at" "at") (xx_BadSet : XcD P w K mg base "BadSet" "letters") (xk_BadNumber : XckD P w K mg base "BadNumber" "number" "number") (xx_BadText : XcD P w K mg base "BadText" "place") (xk_BadLog : XckD P w K mg base "BadLog" "at" "at") (xx_NoProduct : XcD P w K mg base "NoProduct" "at") (xk_NotKept : XckD P w K mg base "NotKept" "at" "at") (xk_TooMany : XckD P w K mg base "TooMany" "limit" "limit") (xx_BadLevel : XcD P w K mg base "BadLevel" "letters") (xk_BadWeight : XckD P w K mg base "BadWeight" "weight" "weight") (xk_NoPlace : XckD P w K mg base "NoPlace" "place" "place") (xx_BadRow : XcD P w K mg base "BadRow" "at") (xk_BadDependence : XckD P w K mg base "BadDependence" "at" "at") (xk_BadSet : XckD P w K mg base "BadSet" "letters" "letters") (xk_BadColumns : XckD P w K mg base "BadColumns" "given" "given") (xx_BadNumber : XcD P w K mg base "BadNumber" "number") (c_law_kinds : CalD P w K mg base 2 "_law_kinds" 1 [] D_law_kinds) (c_law_odd : CalD P w K mg base 5 "_law_odd" 1 [] D_law_odd) : LG.FnG P w K mg base 6 f fd ["_law_script"] (spL ⟨K, mg⟩ law) :=
  have sc := sc_law
  law_ok (k := 5) F sc FB mb kpb bb (by decide) rfl rfl rfl (by first | exact Or.inl rfl | exact Or.inr (Or.inl rfl) | exact Or.inr (Or.inr rfl)) (by first | exact Or.inl rfl | exact Or.inr rfl) rfl (by decide +kernel) (by decide +kernel) (by decide +kernel) (fun cdv A outer s H E hr hG => (fss_cons (fs_for PassesOwn.never rfl (fi_range1 rfl G.n_range (fa_cons (fe_op opD_add fe_int (fe_b (bD_min rfl) rfl G.n_min bo_min (fa_cons (fe_b bD_len rfl G.n_len bo_len (fa_cons (fe_var (i := 0) rfl (by first | exact Or.inl rfl | exact Or.inr (Or.inl rfl) | exact Or.inr (Or.inr rfl))) fa_nil)) (fa_cons fe_int fa_nil)))) fa_nil)) (fg_name (i := 2) sc.nd rfl (by first | exact Or.inl rfl | exact Or.inr rfl))
   (fss_cons (fs_par2 rfl sc.nd (i := 6) (j := 7) rfl rfl (by decide) rfl rfl (fp_cons (fe_call c_law_odd hr rfl (fa_cons (fe_var (i := 1) rfl (by first | exact Or.inl rfl | exact Or.inr (Or.inl rfl) | exact Or.inr (Or.inr rfl))) fa_nil)) (fp_cons (fe_call c_law_odd hr rfl (fa_cons (fe_var (i := 1) rfl (by first | exact Or.inl rfl | exact Or.inr (Or.inl rfl) | exact Or.inr (Or.inr rfl))) fa_nil)) fp_nil)) rfl)
  (fss_cons (fs_set (i := 3) sc.nd rfl (by first | exact Or.inl rfl | exact Or.inr rfl) (fe_lst (fa_cons (fe_mkX xx_BadNumber rfl hr rfl (fa_cons (fe_var (i := 6) rfl (by first | exact Or.inl rfl | exact Or.inr (Or.inl rfl) | exact Or.inr (Or.inr rfl))) fa_nil)) (fa_cons (fe_mkXK xk_BadColumns rfl hr rfl (fk_cons (fe_var (i := 6) rfl (by first | exact Or.inl rfl | exact Or.inr (Or.inl rfl) | exact Or.inr (Or.inr rfl))) fk_nil) rfl) (fa_cons (fe_mkXK xk_BadSet rfl hr rfl (fk_cons (fe_var (i := 6) rfl (by first | exact Or.inl rfl | exact Or.inr (Or.inl rfl) | exact Or.inr (Or.inr rfl))) fk_nil) rfl) (fa_cons (fe_mkXK xk_BadDependence rfl hr rfl (fk_cons (fe_var (i := 6) rfl (by first | exact Or.inl rfl | exact Or.inr (Or.inl rfl) | exact Or.inr (Or.inr rfl))) fk_nil) rfl) (fa_cons (fe_mkX xx_BadRow rfl hr rfl (fa_cons (fe_var (i := 6) rfl (by first | exact Or.inl rfl | exact Or.inr (Or.inl rfl) | exact Or.inr (Or.inr rfl))) fa_nil)) fa_nil)))))))
  (fss_cons (fs_set (i := 3) sc.nd rfl (by first | exact Or.inl rfl | exact Or.inr rfl) (fe_op opD_add (fe_var (i := 3) rfl (by first | exact Or.inl rfl | exact Or.inr (Or.inl rfl) | exact Or.inr (Or.inr rfl))) (fe_lst (fa_cons (fe_mkXK xk_NoPlace rfl hr rfl (fk_cons (fe_var (i := 6) rfl (by first | exact Or.inl rfl | exact Or.inr (Or.inl rfl) | exact Or.inr (Or.inr rfl))) fk_nil) rfl) (fa_cons (fe_mkXK xk_BadWeight rfl hr rfl (fk_cons (fe_var (i := 6) rfl (by first | exact Or.inl rfl | exact Or.inr (Or.inl rfl) | exact Or.inr (Or.inr rfl))) fk_nil) rfl) (fa_cons (fe_mkX xx_BadLevel rfl hr rfl (fa_cons (fe_var (i := 6) rfl (by first | exact Or.inl rfl | exact Or.inr (Or.inl rfl) | exact Or.inr (Or.inr rfl))) fa_nil)) (fa_cons (fe_mkXK xk_TooMany rfl hr rfl (fk_cons (fe_var (i := 6) rfl (by first | exact Or.inl rfl | exact Or.inr (Or.inl rfl) | exact Or.inr (Or.inr rfl))) fk_nil) rfl) (fa_cons (fe_mkXK xk_NotKept rfl hr rfl (fk_cons (fe_var (i := 6) rfl (by first | exact Or.inl rfl | exact Or.inr (Or.inl rfl) | exact Or.inr (Or.inr rfl))) fk_nil) rfl) fa_nil))))))))
  (fss_cons (fs_set (i := 3) sc.nd rfl (by first | exact Or.inl rfl | exact Or.inr rfl) (fe_op opD_add (fe_var (i := 3) rfl (by first | exact Or.inl rfl | exact Or.inr (Or.inl rfl) | exact Or.inr (Or.inr rfl))) (fe_lst (fa_cons (fe_mkX xx_NoProduct rfl hr rfl (fa_cons (fe_var (i := 6) rfl (by first | exact Or.inl rfl | exact Or.inr (Or.inl rfl) | exact Or.inr (Or.inr rfl))) fa_nil)) (fa_cons (fe_mkXK xk_BadLog rfl hr rfl (fk_cons (fe_var (i := 6) rfl (by first | exact Or.inl rfl | exact Or.inr (Or.inl rfl) | exact Or.inr (Or.inr rfl))) fk_nil) rfl) (fa_cons (fe_mkX xx_BadText rfl hr rfl (fa_cons (fe_var (i := 6) rfl (by first | exact Or.inl rfl | exact Or.inr (Or.inl rfl) | exact Or.inr (Or.inr rfl))) fa_nil)) (fa_cons (fe_mk0 G.x0_NoTable rfl fe_str) (fa_cons (fe_mk0 G.x0_NothingLeft rfl fe_str) fa_nil))))))))
  (fss_cons (fs_for PassesOwn.never rfl (fi_enum rfl G.n_enumerate (fe_var (i := 3) rfl (by first | exact Or.inl rfl | exact Or.inr (Or.inl rfl) | exact Or.inr (Or.inr rfl)))) (fg_tup rfl (fgs_cons (fg_name (i := 8) sc.nd rfl (by first | exact Or.inl rfl | exact Or.inr rfl)) (fgs_cons (fg_name (i := 9) sc.nd rfl (by first | exact Or.inl rfl | exact Or.inr rfl)) fgs_nil)) (n := 2) (hg := (gCons_len (gCons_len gNil_len))))
   (fss_cons (fs_if (ft_w (fw_or (ft_not (ft_val (fe_alt (fe_isiC G.i_MeanError rfl G.n_isinstance rfl (fe_var (i := 9) rfl (by first | exact Or.inl rfl | exact Or.inr (Or.inl rfl) | exact Or.inr (Or.inr rfl)))) (fe_isxC G.xi_MeanError rfl G.n_isinstance rfl (fe_var (i := 9) rfl (by first | exact Or.inl rfl | exact Or.inr (Or.inl rfl) | exact Or.inr (Or.inr rfl))))))) (fw_or1 (ft_not (ft_val (fe_alt (fe_isi rfl G.n_isinstance (pe_bltn (v := .ty "ValueError") rfl G.n_ValueError (by decide +kernel) rfl) (.ty _) G.i_ValueError (fe_var (i := 9) rfl (by first | exact Or.inl rfl | exact Or.inr (Or.inl rfl) | exact Or.inr (Or.inr rfl)))) (fe_isx rfl G.n_isinstance (pe_bltn (v := .ty "ValueError") rfl G.n_ValueError (by decide +kernel) rfl) (.ty _) G.xi_ValueError (fe_var (i := 9) rfl (by first | exact Or.inl rfl | exact Or.inr (Or.inl rfl) | exact Or.inr (Or.inr rfl)))))))))) (fss_one (fs_ret fe_bl)) fss_nil)
  (fss_one (fs_if (FC.ft (fc_data (opD_ne hr) (fe_call c_law_kinds hr rfl (fa_cons (fe_var (i := 9) rfl (by first | exact Or.inl rfl | exact Or.inr (Or.inl rfl) | exact Or.inr (Or.inr rfl))) fa_nil)) (fe_lc rfl sc.nd (own := [("_law_k", 10)]) (fi_range1 rfl G.n_range (fa_cons fe_int fa_nil)) (blkOk_by (by show blkC ["_law_script", "_law_draw", "_law_turn", "_law_made", "_law_told", "_law_more", "_law_one", "_law_other", "_law_at_here", "_law_error", "_law_k", "_law_plain"] (defScope s_law) _ [("_law_k", 10)] = true; decide +kernel)) (fun _ _ _ _ _ => (fg_name (i := 10) sc.nd rfl (by first | exact Or.inl rfl | exact Or.inr rfl))) (fun _ _ _ _ _ => fts_nil) (fun _ _ _ _ _ => (FC.fe (fc_data (opD_eq hr) (fe_var (i := 10) rfl (by first | exact Or.inl rfl | exact Or.inr (Or.inl rfl) | exact Or.inr (Or.inr rfl))) (fe_var (i := 8) rfl (by first | exact Or.inl rfl | exact Or.inr (Or.inl rfl) | exact Or.inr (Or.inr rfl))) rfl)))) rfl)) (fss_one (fs_ret fe_bl)) fss_nil))))
  (fss_cons (fs_set (i := 4) sc.nd rfl (by first | exact Or.inl rfl | exact Or.inr rfl) (fe_lst (fa_cons (fe_xf G.xf_number (fe_ix ixD_ok (fe_var (i := 3) rfl (by first | exact Or.inl rfl | exact Or.inr (Or.inl rfl) | exact Or.inr (Or.inr rfl))) fe_int (fun _ _ => rfl))) (fa_cons (fe_xf G.xf_given (fe_ix ixD_ok (fe_var (i := 3) rfl (by first | exact Or.inl rfl | exact Or.inr (Or.inl rfl) | exact Or.inr (Or.inr rfl))) fe_int (fun _ _ => rfl))) (fa_cons (fe_xf G.xf_letters (fe_ix ixD_ok (fe_var (i := 3) rfl (by first | exact Or.inl rfl | exact Or.inr (Or.inl rfl) | exact Or.inr (Or.inr rfl))) fe_int (fun _ _ => rfl))) (fa_cons (fe_xf G.xf_at (fe_ix ixD_ok (fe_var (i := 3) rfl (by first | exact Or.inl rfl | exact Or.inr (Or.inl rfl) | exact Or.inr (Or.inr rfl))) fe_int (fun _ _ => rfl))) (fa_cons (fe_xf G.xf_at (fe_ix ixD_ok (fe_var (i := 3) rfl (by first | exact Or.inl rfl | exact Or.inr (Or.inl rfl) | exact Or.inr (Or.inr rfl))) fe_int (fun _ _ => rfl))) (fa_cons (fe_xf G.xf_place (fe_ix ixD_ok (fe_var (i := 3) rfl (by first | exact Or.inl rfl | exact Or.inr (Or.inl rfl) | exact Or.inr (Or.inr rfl))) fe_int (fun _ _ => rfl))) (fa_cons (fe_xf G.xf_weight (fe_ix ixD_ok (fe_var (i := 3) rfl (by first | exact Or.inl rfl | exact Or.inr (Or.inl rfl) | exact Or.inr (Or.inr rfl))) fe_int (fun _ _ => rfl))) fa_nil)))))))))
  (fss_cons (fs_set (i := 4) sc.nd rfl (by first | exact Or.inl rfl | exact Or.inr rfl) (fe_op opD_add (fe_var (i := 4) rfl (by first | exact Or.inl rfl | exact Or.inr (Or.inl rfl) | exact Or.inr (Or.inr rfl))) (fe_lst (fa_cons (fe_xf G.xf_letters (fe_ix ixD_ok (fe_var (i := 3) rfl (by first | exact Or.inl rfl | exact Or.inr (Or.inl rfl) | exact Or.inr (Or.inr rfl))) fe_int (fun _ _ => rfl))) (fa_cons (fe_xf G.xf_limit (fe_ix ixD_ok (fe_var (i := 3) rfl (by first | exact Or.inl rfl | exact Or.inr (Or.inl rfl) | exact Or.inr (Or.inr rfl))) fe_int (fun _ _ => rfl))) (fa_cons (fe_xf G.xf_at (fe_ix ixD_ok (fe_var (i := 3) rfl (by first | exact Or.inl rfl | exact Or.inr (Or.inl rfl) | exact Or.inr (Or.inr rfl))) fe_int (fun _ _ => rfl))) (fa_cons (fe_xf G.xf_at (fe_ix ixD_ok (fe_var (i := 3) rfl (by first | exact Or.inl rfl | exact Or.inr (Or.inl rfl) | exact Or.inr (Or.inr rfl))) fe_int (fun _ _ => rfl))) (fa_cons (fe_xf G.xf_at (fe_ix ixD_ok (fe_var (i := 3) rfl (by first | exact Or.inl rfl | exact Or.inr (Or.inl rfl) | exact Or.inr (Or.inr rfl))) fe_int (fun _ _ => rfl))) (fa_cons (fe_xf G.xf_place (fe_ix ixD_ok (fe_var (i := 3) rfl (by first | exact Or.inl rfl | exact Or.inr (Or.inl rfl) | exact Or.inr (Or.inr rfl))) fe_int (fun _ _ => rfl))) fa_nil)))))))))
  (fss_cons (fs_if (FC.ft (fc_data (opD_ne hr) (fe_b (bD_reprW hS hr hG) rfl G.n_repr bo_repr (fa_cons (fe_var (i := 4) rfl (by first | exact Or.inl rfl | exact Or.inr (Or.inl rfl) | exact Or.inr (Or.inr rfl))) fa_nil)) (fe_b (bD_reprW hS hr hG) rfl G.n_repr bo_repr (fa_cons (fe_op opD_rep (fe_lst (fa_cons (fe_var (i := 6) rfl (by first | exact Or.inl rfl | exact Or.inr (Or.inl rfl) | exact Or.inr (Or.inr rfl))) fa_nil)) fe_int) fa_nil)) rfl)) (fss_one (fs_ret fe_bl)) fss_nil)
  (fss_cons (fs_set (i := 5) sc.nd rfl (by first | exact Or.inl rfl | exact Or.inr rfl) (fe_lst (fa_cons (fe_mkXK xk_BadNumber rfl hr rfl (fk_cons (fe_var (i := 7) rfl (by first | exact Or.inl rfl | exact Or.inr (Or.inl rfl) | exact Or.inr (Or.inr rfl))) fk_nil) rfl) (fa_cons (fe_mkX xx_BadSet rfl hr rfl (fa_cons (fe_var (i := 7) rfl (by first | exact Or.inl rfl | exact Or.inr (Or.inl rfl) | exact Or.inr (Or.inr rfl))) fa_nil)) (fa_cons (fe_mkXK xk_BadRow rfl hr rfl (fk_cons (fe_var (i := 7) rfl (by first | exact Or.inl rfl | exact Or.inr (Or.inl rfl) | exact Or.inr (Or.inr rfl))) fk_nil) rfl) (fa_cons (fe_mkXK xk_BadLevel rfl hr rfl (fk_cons (fe_var (i := 7) rfl (by first | exact Or.inl rfl | exact Or.inr (Or.inl rfl) | exact Or.inr (Or.inr rfl))) fk_nil) rfl) (fa_cons (fe_mkXK xk_BadText rfl hr rfl (fk_cons (fe_var (i := 7) rfl (by first | exact Or.inl rfl | exact Or.inr (Or.inl rfl) | exact Or.inr (Or.inr rfl))) fk_nil) rfl) fa_nil)))))))
  (fss_one (fs_if (FC.ft (fc_data (opD_ne hr) (fe_b (bD_reprW hS hr hG) rfl G.n_repr bo_repr (fa_cons (fe_lst (fa_cons (fe_xf G.xf_number (fe_ix ixD_ok (fe_var (i := 5) rfl (by first | exact Or.inl rfl | exact Or.inr (Or.inl rfl) | exact Or.inr (Or.inr rfl))) fe_int (fun _ _ => rfl))) (fa_cons (fe_xf G.xf_letters (fe_ix ixD_ok (fe_var (i := 5) rfl (by first | exact Or.inl rfl | exact Or.inr (Or.inl rfl) | exact Or.inr (Or.inr rfl))) fe_int (fun _ _ => rfl))) (fa_cons (fe_xf G.xf_at (fe_ix ixD_ok (fe_var (i := 5) rfl (by first | exact Or.inl rfl | exact Or.inr (Or.inl rfl) | exact Or.inr (Or.inr rfl))) fe_int (fun _ _ => rfl))) (fa_cons (fe_xf G.xf_letters (fe_ix ixD_ok (fe_var (i := 5) rfl (by first | exact Or.inl rfl | exact Or.inr (Or.inl rfl) | exact Or.inr (Or.inr rfl))) fe_int (fun _ _ => rfl))) (fa_cons (fe_xf G.xf_place (fe_ix ixD_ok (fe_var (i := 5) rfl (by first | exact Or.inl rfl | exact Or.inr (Or.inl rfl) | exact Or.inr (Or.inr rfl))) fe_int (fun _ _ => rfl))) fa_nil)))))) fa_nil)) (fe_b (bD_reprW hS hr hG) rfl G.n_repr bo_repr (fa_cons (fe_op opD_rep (fe_lst (fa_cons (fe_var (i := 7) rfl (by first | exact Or.inl rfl | exact Or.inr (Or.inl rfl) | exact Or.inr (Or.inr rfl))) fa_nil)) fe_int) fa_nil)) rfl)) (fss_one (fs_ret fe_bl)) fss_nil))))))))))))
  (fss_cons (fs_set (i := 11) sc.nd rfl (by first | exact Or.inl rfl | exact Or.inr rfl) (fe_mk0 G.x0_MeanError rfl fe_str))
  (fss_one (fs_ret (fe_and (FC.fe (fc_data opD_notInF fe_bl (fe_call c_law_kinds hr rfl (fa_cons (fe_var (i := 11) rfl (by first | exact Or.inl rfl | exact Or.inr (Or.inl rfl) | exact Or.inr (Or.inr rfl))) fa_nil)) rfl)) (fe_one (fe_alt (fe_isi rfl G.n_isinstance (pe_bltn (v := .ty "ValueError") rfl G.n_ValueError (by decide +kernel) rfl) (.ty _) G.i_ValueError (fe_var (i := 11) rfl (by first | exact Or.inl rfl | exact Or.inr (Or.inl rfl) | exact Or.inr (Or.inr rfl)))) (fe_isx rfl G.n_isinstance (pe_bltn (v := .ty "ValueError") rfl G.n_ValueError (by decide +kernel) rfl) (.ty _) G.xi_ValueError (fe_var (i := 11) rfl (by first | exact Or.inl rfl | exact Or.inr (Or.inl rfl) | exact Or.inr (Or.inr rfl))))))))))))
end
end KL

end sec_Ders
section sec_Asm
set_option maxRecDepth 100000
set_option maxHeartbeats 4000000
/-! printed by gen_asm.py: what the top has written, put together -/
namespace KL
open PySem L2 FD
theorem kb_ValueError : ∀ T ∈ ["NoneType", "bool", "int", "str", "tuple", "list", "dict"], kitB T "ValueError" = some (bt_ValueError T) := by decide +kernel
theorem asm {l : PySem.W.OpenLaw} {w : World} {K : PySem.W.Frag} {h : Heap} {mg : Str → Option Value} {fa : Addr} (X : K.In h) (G0 : h.Ns mainGlobals mg) (hfa : mg "law" = some (.ref fa))
    {C_MeanError : Addr} {C_BadNumber : Addr} {C_BadColumns : Addr} {C_BadSet : Addr} {C_BadDependence : Addr} {C_BadRow : Addr} {C_NoPlace : Addr} {C_BadWeight : Addr} {C_BadLevel : Addr} {C_TooMany : Addr} {C_NotKept : Addr} {C_NoProduct : Addr} {C_BadLog : Addr} {C_BadText : Addr} {C_NoTable : Addr} {C_NothingLeft : Addr} {nm_BadText qn_BadText : Str} {N_BadText : Addr} {bs_BadText bm_BadText : List Value} {sn_BadText : List Str} {su_BadText : List Value} {ab_BadText : Bool} {co_BadText : Option Bool} {dd_BadText : Option Addr} {k0_BadText k1_BadText k2_BadText k3_BadText k5_BadText : Option Value} {f_BadText_init : Addr} {od_BadText_init an_BadText_init : Option Addr} {sl_BadText_init : Array (Option Value)} {oc_BadText_init kV_BadText_init dc_BadText_init pm_BadText_init ct_BadText_init cd_BadText_init : Value} {nm_BadLevel qn_BadLevel : Str} {N_BadLevel : Addr} {bs_BadLevel bm_BadLevel : List Value} {sn_BadLevel : List Str} {su_BadLevel : List Value} {ab_BadLevel : Bool} {co_BadLevel : Option Bool} {dd_BadLevel : Option Addr} {k0_BadLevel k1_BadLevel k2_BadLevel k3_BadLevel k5_BadLevel : Option Value} {f_BadLevel_init : Addr} {od_BadLevel_init an_BadLevel_init : Option Addr} {sl_BadLevel_init : Array (Option Value)} {oc_BadLevel_init kV_BadLevel_init dc_BadLevel_init pm_BadLevel_init ct_BadLevel_init cd_BadLevel_init : Value} {nm_BadRow qn_BadRow : Str} {N_BadRow : Addr} {bs_BadRow bm_BadRow : List Value} {sn_BadRow : List Str} {su_BadRow : List Value} {ab_BadRow : Bool} {co_BadRow : Option Bool} {dd_BadRow : Option Addr} {k0_BadRow k1_BadRow k2_BadRow k3_BadRow k5_BadRow : Option Value} {f_BadRow_init : Addr} {od_BadRow_init an_BadRow_init : Option Addr} {sl_BadRow_init : Array (Option Value)} {oc_BadRow_init kV_BadRow_init dc_BadRow_init pm_BadRow_init ct_BadRow_init cd_BadRow_init : Value} {nm_BadSet qn_BadSet : Str} {N_BadSet : Addr} {bs_BadSet bm_BadSet : List Value} {sn_BadSet : List Str} {su_BadSet : List Value} {ab_BadSet : Bool} {co_BadSet : Option Bool} {dd_BadSet : Option Addr} {k0_BadSet k1_BadSet k2_BadSet k3_BadSet k5_BadSet : Option Value} {f_BadSet_init : Addr} {od_BadSet_init an_BadSet_init : Option Addr} {sl_BadSet_init : Array (Option Value)} {oc_BadSet_init kV_BadSet_init dc_BadSet_init pm_BadSet_init ct_BadSet_init cd_BadSet_init : Value} {nm_BadNumber qn_BadNumber : Str} {N_BadNumber : Addr} {bs_BadNumber bm_BadNumber : List Value} {sn_BadNumber : List Str} {su_BadNumber : List Value} {ab_BadNumber : Bool} {co_BadNumber : Option Bool} {dd_BadNumber : Option Addr} {k0_BadNumber k1_BadNumber k2_BadNumber k3_BadNumber k5_BadNumber : Option Value} {f_BadNumber_init : Addr} {od_BadNumber_init an_BadNumber_init : Option Addr} {sl_BadNumber_init : Array (Option Value)} {oc_BadNumber_init kV_BadNumber_init dc_BadNumber_init pm_BadNumber_init ct_BadNumber_init cd_BadNumber_init : Value} {nm_BadLog qn_BadLog : Str} {N_BadLog : Addr} {bs_BadLog bm_BadLog : List Value} {sn_BadLog : List Str} {su_BadLog : List Value} {ab_BadLog : Bool} {co_BadLog : Option Bool} {dd_BadLog : Option Addr} {k0_BadLog k1_BadLog k2_BadLog k3_BadLog k5_BadLog : Option Value} {f_BadLog_init : Addr} {od_BadLog_init an_BadLog_init : Option Addr} {sl_BadLog_init : Array (Option Value)} {oc_BadLog_init kV_BadLog_init dc_BadLog_init pm_BadLog_init ct_BadLog_init cd_BadLog_init : Value} {nm_NoProduct qn_NoProduct : Str} {N_NoProduct : Addr} {bs_NoProduct bm_NoProduct : List Value} {sn_NoProduct : List Str} {su_NoProduct : List Value} {ab_NoProduct : Bool} {co_NoProduct : Option Bool} {dd_NoProduct : Option Addr} {k0_NoProduct k1_NoProduct k2_NoProduct k3_NoProduct k5_NoProduct : Option Value} {f_NoProduct_init : Addr} {od_NoProduct_init an_NoProduct_init : Option Addr} {sl_NoProduct_init : Array (Option Value)} {oc_NoProduct_init kV_NoProduct_init dc_NoProduct_init pm_NoProduct_init ct_NoProduct_init cd_NoProduct_init : Value} {nm_NotKept qn_NotKept : Str} {N_NotKept : Addr} {bs_NotKept bm_NotKept : List Value} {sn_NotKept : List Str} {su_NotKept : List Value} {ab_NotKept : Bool} {co_NotKept : Option Bool} {dd_NotKept : Option Addr} {k0_NotKept k1_NotKept k2_NotKept k3_NotKept k5_NotKept : Option Value} {f_NotKept_init : Addr} {od_NotKept_init an_NotKept_init : Option Addr} {sl_NotKept_init : Array (Option Value)} {oc_NotKept_init kV_NotKept_init dc_NotKept_init pm_NotKept_init ct_NotKept_init cd_NotKept_init : Value} {nm_TooMany qn_TooMany : Str} {N_TooMany : Addr} {bs_TooMany bm_TooMany : List Value} {sn_TooMany : List Str} {su_TooMany : List Value} {ab_TooMany : Bool} {co_TooMany : Option Bool} {dd_TooMany : Option Addr} {k0_TooMany k1_TooMany k2_TooMany k3_TooMany k5_TooMany : Option Value} {f_TooMany_init : Addr} {od_TooMany_init an_TooMany_init : Option Addr} {sl_TooMany_init : Array (Option Value)} {oc_TooMany_init kV_TooMany_init dc_TooMany_init pm_TooMany_init ct_TooMany_init cd_TooMany_init : Value} {nm_BadWeight qn_BadWeight : Str} {N_BadWeight : Addr} {bs_BadWeight bm_BadWeight : List Value} {sn_BadWeight : List Str} {su_BadWeight : List Value} {ab_BadWeight : Bool} {co_BadWeight : Option Bool} {dd_BadWeight : Option Addr} {k0_BadWeight k1_BadWeight k2_BadWeight k3_BadWeight k5_BadWeight : Option Value} {f_BadWeight_init : Addr} {od_BadWeight_init an_BadWeight_init : Option Addr} {sl_BadWeight_init : Array (Option Value)} {oc_BadWeight_init kV_BadWeight_init dc_BadWeight_init pm_BadWeight_init ct_BadWeight_init cd_BadWeight_init : Value} {nm_NoPlace qn_NoPlace : Str} {N_NoPlace : Addr} {bs_NoPlace bm_NoPlace : List Value} {sn_NoPlace : List Str} {su_NoPlace : List Value} {ab_NoPlace : Bool} {co_NoPlace : Option Bool} {dd_NoPlace : Option Addr} {k0_NoPlace k1_NoPlace k2_NoPlace k3_NoPlace k5_NoPlace : Option Value} {f_NoPlace_init : Addr} {od_NoPlace_init an_NoPlace_init : Option Addr} {sl_NoPlace_init : Array (Option Value)} {oc_NoPlace_init kV_NoPlace_init dc_NoPlace_init pm_NoPlace_init ct_NoPlace_init cd_NoPlace_init : Value} {nm_BadDependence qn_BadDependence : Str} {N_BadDependence : Addr} {bs_BadDependence bm_BadDependence : List Value} {sn_BadDependence : List Str} {su_BadDependence : List Value} {ab_BadDependence : Bool} {co_BadDependence : Option Bool} {dd_BadDependence : Option Addr} {k0_BadDependence k1_BadDependence k2_BadDependence k3_BadDependence k5_BadDependence : Option Value} {f_BadDependence_init : Addr} {od_BadDependence_init an_BadDependence_init : Option Addr} {sl_BadDependence_init : Array (Option Value)} {oc_BadDependence_init kV_BadDependence_init dc_BadDependence_init pm_BadDependence_init ct_BadDependence_init cd_BadDependence_init : Value} {nm_BadColumns qn_BadColumns : Str} {N_BadColumns : Addr} {bs_BadColumns bm_BadColumns : List Value} {sn_BadColumns : List Str} {su_BadColumns : List Value} {ab_BadColumns : Bool} {co_BadColumns : Option Bool} {dd_BadColumns : Option Addr} {k0_BadColumns k1_BadColumns k2_BadColumns k3_BadColumns k5_BadColumns : Option Value} {f_BadColumns_init : Addr} {od_BadColumns_init an_BadColumns_init : Option Addr} {sl_BadColumns_init : Array (Option Value)} {oc_BadColumns_init kV_BadColumns_init dc_BadColumns_init pm_BadColumns_init ct_BadColumns_init cd_BadColumns_init : Value} {f_law_begun : Addr} {od_law_begun an_law_begun : Option Addr} {sl_law_begun : Array (Option Value)} {oc_law_begun kV_law_begun dc_law_begun pm_law_begun ct_law_begun : Value} {cd_law_begun : Value} {f_law_kinds : Addr} {od_law_kinds an_law_kinds : Option Addr} {sl_law_kinds : Array (Option Value)} {oc_law_kinds kV_law_kinds dc_law_kinds pm_law_kinds ct_law_kinds : Value} {cd_law_kinds : Value} {f_law_mixed : Addr} {od_law_mixed an_law_mixed : Option Addr} {sl_law_mixed : Array (Option Value)} {oc_law_mixed kV_law_mixed dc_law_mixed pm_law_mixed ct_law_mixed : Value} {cd_law_mixed : Value} {f_law_take : Addr} {od_law_take an_law_take : Option Addr} {sl_law_take : Array (Option Value)} {oc_law_take kV_law_take dc_law_take pm_law_take ct_law_take : Value} {cd_law_take : Value} {f_law_pick : Addr} {od_law_pick an_law_pick : Option Addr} {sl_law_pick : Array (Option Value)} {oc_law_pick kV_law_pick dc_law_pick pm_law_pick ct_law_pick : Value} {cd_law_pick : Value} {f_law_odd : Addr} {od_law_odd an_law_odd : Option Addr} {sl_law_odd : Array (Option Value)} {oc_law_odd kV_law_odd dc_law_odd pm_law_odd ct_law_odd : Value} {cd_law_odd : Value} {f_law : Addr} {od_law an_law : Option Addr} {sl_law : Array (Option Value)} {oc_law kV_law dc_law pm_law ct_law : Value} {cd_law : Value}
    (aC_MeanError : PySem.W.nsIn K mainGlobals "MeanError" = some (some (.ref C_MeanError)))
    (aC_BadNumber : PySem.W.nsIn K mainGlobals "BadNumber" = some (some (.ref C_BadNumber)))
    (aC_BadColumns : PySem.W.nsIn K mainGlobals "BadColumns" = some (some (.ref C_BadColumns)))
    (aC_BadSet : PySem.W.nsIn K mainGlobals "BadSet" = some (some (.ref C_BadSet)))
    (aC_BadDependence : PySem.W.nsIn K mainGlobals "BadDependence" = some (some (.ref C_BadDependence)))
    (aC_BadRow : PySem.W.nsIn K mainGlobals "BadRow" = some (some (.ref C_BadRow)))
    (aC_NoPlace : PySem.W.nsIn K mainGlobals "NoPlace" = some (some (.ref C_NoPlace)))
    (aC_BadWeight : PySem.W.nsIn K mainGlobals "BadWeight" = some (some (.ref C_BadWeight)))
    (aC_BadLevel : PySem.W.nsIn K mainGlobals "BadLevel" = some (some (.ref C_BadLevel)))
    (aC_TooMany : PySem.W.nsIn K mainGlobals "TooMany" = some (some (.ref C_TooMany)))
    (aC_NotKept : PySem.W.nsIn K mainGlobals "NotKept" = some (some (.ref C_NotKept)))
    (aC_NoProduct : PySem.W.nsIn K mainGlobals "NoProduct" = some (some (.ref C_NoProduct)))
    (aC_BadLog : PySem.W.nsIn K mainGlobals "BadLog" = some (some (.ref C_BadLog)))
    (aC_BadText : PySem.W.nsIn K mainGlobals "BadText" = some (some (.ref C_BadText)))
    (aC_NoTable : PySem.W.nsIn K mainGlobals "NoTable" = some (some (.ref C_NoTable)))
    (aC_NothingLeft : PySem.W.nsIn K mainGlobals "NothingLeft" = some (some (.ref C_NothingLeft)))
    (xei_MeanError : PySem.W.excIn K C_MeanError PySem.HandSPX.veTail "ValueError.__new__" = true)
    (xkc_MeanError : PySem.W.keepIn K (.ref C_MeanError) = true)
    (xex_MeanError : PySem.W.subIn K (.ref C_MeanError) (.type "BaseException") = some true)
    (xga_MeanError : PySem.W.findIn K (.ref C_MeanError) "__getattribute__" = some (some (.builtin "BaseException.__getattribute__")))
    (xgt_MeanError : PySem.W.findIn K (.ref C_MeanError) "__getattr__" = some none)
    (xhd_MeanError : PySem.W.hasDictIn K C_MeanError = true)
    (xha_MeanError : PySem.W.findIn K (.ref C_MeanError) "__class__" = some (some (.builtin "object.__class__")))
    (xmr_MeanError : PySem.W.mroIn K C_MeanError (.type "object") = some true)
    (xei_NothingLeft : PySem.W.excIn K C_NothingLeft PySem.HandSPX.veTail "ValueError.__new__" = true)
    (xkc_NothingLeft : PySem.W.keepIn K (.ref C_NothingLeft) = true)
    (xex_NothingLeft : PySem.W.subIn K (.ref C_NothingLeft) (.type "BaseException") = some true)
    (xga_NothingLeft : PySem.W.findIn K (.ref C_NothingLeft) "__getattribute__" = some (some (.builtin "BaseException.__getattribute__")))
    (xgt_NothingLeft : PySem.W.findIn K (.ref C_NothingLeft) "__getattr__" = some none)
    (xhd_NothingLeft : PySem.W.hasDictIn K C_NothingLeft = true)
    (xha_NothingLeft : PySem.W.findIn K (.ref C_NothingLeft) "__class__" = some (some (.builtin "object.__class__")))
    (xmr_NothingLeft : PySem.W.mroIn K C_NothingLeft (.type "object") = some true)
    (xei_NoTable : PySem.W.excIn K C_NoTable PySem.HandSPX.veTail "ValueError.__new__" = true)
    (xkc_NoTable : PySem.W.keepIn K (.ref C_NoTable) = true)
    (xex_NoTable : PySem.W.subIn K (.ref C_NoTable) (.type "BaseException") = some true)
    (xga_NoTable : PySem.W.findIn K (.ref C_NoTable) "__getattribute__" = some (some (.builtin "BaseException.__getattribute__")))
    (xgt_NoTable : PySem.W.findIn K (.ref C_NoTable) "__getattr__" = some none)
    (xhd_NoTable : PySem.W.hasDictIn K C_NoTable = true)
    (xha_NoTable : PySem.W.findIn K (.ref C_NoTable) "__class__" = some (some (.builtin "object.__class__")))
    (xmr_NoTable : PySem.W.mroIn K C_NoTable (.type "object") = some true)
    (lk_BadText : K.lookup C_BadText = some (excClassObj nm_BadText qn_BadText C_BadText N_BadText bs_BadText bm_BadText true sn_BadText su_BadText ab_BadText co_BadText dd_BadText k0_BadText k1_BadText k2_BadText k3_BadText k5_BadText "ValueError.__new__"))
    (ki_rv_BadText : PySem.HandSPX.refsVE bm_BadText = true)
    (xsa_BadText : PySem.W.findIn K (.ref C_BadText) "__setattr__" = some (some (.builtin "object.__setattr__")))
    (xex_BadText : PySem.W.subIn K (.ref C_BadText) (.type "BaseException") = some true)
    (xty_BadText : PySem.W.typeIn K (.ref C_BadText) = some (.type "type"))
    (xkc_BadText : PySem.W.keepIn K (.ref C_BadText) = true)
    (xga_BadText : PySem.W.findIn K (.ref C_BadText) "__getattribute__" = some (some (.builtin "BaseException.__getattribute__")))
    (xgt_BadText : PySem.W.findIn K (.ref C_BadText) "__getattr__" = some none)
    (xhd_BadText : PySem.W.hasDictIn K C_BadText = true)
    (xha_BadText : PySem.W.findIn K (.ref C_BadText) "__class__" = some (some (.builtin "object.__class__")))
    (xmr_BadText : PySem.W.mroIn K C_BadText (.type "object") = some true)
    (xno_BadText : PySem.W.findIn K (.ref C_BadText) "place" = some none)
    (a_BadText_init : PySem.W.findIn K (.ref C_BadText) "__init__" = some (some (.ref f_BadText_init)))
    (xti_BadText_init : PySem.W.typeIn K (.ref f_BadText_init) = some (.type "function"))
    (l_BadText_init : K.lookup f_BadText_init = some ⟨oc_BadText_init, od_BadText_init, .func (PySem.W.fnOf "__init__" "BadText.__init__" (defArgs s_BadText_init) (defBody s_BadText_init) (defScope s_BadText_init) .none kV_BadText_init dc_BadText_init pm_BadText_init an_BadText_init cd_BadText_init ct_BadText_init), sl_BadText_init⟩)
    (c_BadText_init : PySem.W.codeIn K cd_BadText_init "BadText.__init__" = true)
    (k_BadText_init : PySem.W.keepIn K (.ref f_BadText_init) = true)
    (lk_BadLevel : K.lookup C_BadLevel = some (excClassObj nm_BadLevel qn_BadLevel C_BadLevel N_BadLevel bs_BadLevel bm_BadLevel true sn_BadLevel su_BadLevel ab_BadLevel co_BadLevel dd_BadLevel k0_BadLevel k1_BadLevel k2_BadLevel k3_BadLevel k5_BadLevel "ValueError.__new__"))
    (ki_rv_BadLevel : PySem.HandSPX.refsVE bm_BadLevel = true)
    (xsa_BadLevel : PySem.W.findIn K (.ref C_BadLevel) "__setattr__" = some (some (.builtin "object.__setattr__")))
    (xex_BadLevel : PySem.W.subIn K (.ref C_BadLevel) (.type "BaseException") = some true)
    (xty_BadLevel : PySem.W.typeIn K (.ref C_BadLevel) = some (.type "type"))
    (xkc_BadLevel : PySem.W.keepIn K (.ref C_BadLevel) = true)
    (xga_BadLevel : PySem.W.findIn K (.ref C_BadLevel) "__getattribute__" = some (some (.builtin "BaseException.__getattribute__")))
    (xgt_BadLevel : PySem.W.findIn K (.ref C_BadLevel) "__getattr__" = some none)
    (xhd_BadLevel : PySem.W.hasDictIn K C_BadLevel = true)
    (xha_BadLevel : PySem.W.findIn K (.ref C_BadLevel) "__class__" = some (some (.builtin "object.__class__")))
    (xmr_BadLevel : PySem.W.mroIn K C_BadLevel (.type "object") = some true)
    (xno_BadLevel : PySem.W.findIn K (.ref C_BadLevel) "letters" = some none)
    (a_BadLevel_init : PySem.W.findIn K (.ref C_BadLevel) "__init__" = some (some (.ref f_BadLevel_init)))
    (xti_BadLevel_init : PySem.W.typeIn K (.ref f_BadLevel_init) = some (.type "function"))
    (l_BadLevel_init : K.lookup f_BadLevel_init = some ⟨oc_BadLevel_init, od_BadLevel_init, .func (PySem.W.fnOf "__init__" "BadLevel.__init__" (defArgs s_BadLevel_init) (defBody s_BadLevel_init) (defScope s_BadLevel_init) .none kV_BadLevel_init dc_BadLevel_init pm_BadLevel_init an_BadLevel_init cd_BadLevel_init ct_BadLevel_init), sl_BadLevel_init⟩)
    (c_BadLevel_init : PySem.W.codeIn K cd_BadLevel_init "BadLevel.__init__" = true)
    (k_BadLevel_init : PySem.W.keepIn K (.ref f_BadLevel_init) = true)
    (lk_BadRow : K.lookup C_BadRow = some (excClassObj nm_BadRow qn_BadRow C_BadRow N_BadRow bs_BadRow bm_BadRow true sn_BadRow su_BadRow ab_BadRow co_BadRow dd_BadRow k0_BadRow k1_BadRow k2_BadRow k3_BadRow k5_BadRow "ValueError.__new__"))
    (ki_rv_BadRow : PySem.HandSPX.refsVE bm_BadRow = true)
    (xsa_BadRow : PySem.W.findIn K (.ref C_BadRow) "__setattr__" = some (some (.builtin "object.__setattr__")))
    (xex_BadRow : PySem.W.subIn K (.ref C_BadRow) (.type "BaseException") = some true)
    (xty_BadRow : PySem.W.typeIn K (.ref C_BadRow) = some (.type "type"))
    (xkc_BadRow : PySem.W.keepIn K (.ref C_BadRow) = true)
    (xga_BadRow : PySem.W.findIn K (.ref C_BadRow) "__getattribute__" = some (some (.builtin "BaseException.__getattribute__")))
    (xgt_BadRow : PySem.W.findIn K (.ref C_BadRow) "__getattr__" = some none)
    (xhd_BadRow : PySem.W.hasDictIn K C_BadRow = true)
    (xha_BadRow : PySem.W.findIn K (.ref C_BadRow) "__class__" = some (some (.builtin "object.__class__")))
    (xmr_BadRow : PySem.W.mroIn K C_BadRow (.type "object") = some true)
    (xno_BadRow : PySem.W.findIn K (.ref C_BadRow) "at" = some none)
    (a_BadRow_init : PySem.W.findIn K (.ref C_BadRow) "__init__" = some (some (.ref f_BadRow_init)))
    (xti_BadRow_init : PySem.W.typeIn K (.ref f_BadRow_init) = some (.type "function"))
    (l_BadRow_init : K.lookup f_BadRow_init = some ⟨oc_BadRow_init, od_BadRow_init, .func (PySem.W.fnOf "__init__" "BadRow.__init__" (defArgs s_BadRow_init) (defBody s_BadRow_init) (defScope s_BadRow_init) .none kV_BadRow_init dc_BadRow_init pm_BadRow_init an_BadRow_init cd_BadRow_init ct_BadRow_init), sl_BadRow_init⟩)
    (c_BadRow_init : PySem.W.codeIn K cd_BadRow_init "BadRow.__init__" = true)
    (k_BadRow_init : PySem.W.keepIn K (.ref f_BadRow_init) = true)
    (lk_BadSet : K.lookup C_BadSet = some (excClassObj nm_BadSet qn_BadSet C_BadSet N_BadSet bs_BadSet bm_BadSet true sn_BadSet su_BadSet ab_BadSet co_BadSet dd_BadSet k0_BadSet k1_BadSet k2_BadSet k3_BadSet k5_BadSet "ValueError.__new__"))
    (ki_rv_BadSet : PySem.HandSPX.refsVE bm_BadSet = true)
    (xsa_BadSet : PySem.W.findIn K (.ref C_BadSet) "__setattr__" = some (some (.builtin "object.__setattr__")))
    (xex_BadSet : PySem.W.subIn K (.ref C_BadSet) (.type "BaseException") = some true)
    (xty_BadSet : PySem.W.typeIn K (.ref C_BadSet) = some (.type "type"))
    (xkc_BadSet : PySem.W.keepIn K (.ref C_BadSet) = true)
    (xga_BadSet : PySem.W.findIn K (.ref C_BadSet) "__getattribute__" = some (some (.builtin "BaseException.__getattribute__")))
    (xgt_BadSet : PySem.W.findIn K (.ref C_BadSet) "__getattr__" = some none)
    (xhd_BadSet : PySem.W.hasDictIn K C_BadSet = true)
    (xha_BadSet : PySem.W.findIn K (.ref C_BadSet) "__class__" = some (some (.builtin "object.__class__")))
    (xmr_BadSet : PySem.W.mroIn K C_BadSet (.type "object") = some true)
    (xno_BadSet : PySem.W.findIn K (.ref C_BadSet) "letters" = some none)
    (a_BadSet_init : PySem.W.findIn K (.ref C_BadSet) "__init__" = some (some (.ref f_BadSet_init)))
    (xti_BadSet_init : PySem.W.typeIn K (.ref f_BadSet_init) = some (.type "function"))
    (l_BadSet_init : K.lookup f_BadSet_init = some ⟨oc_BadSet_init, od_BadSet_init, .func (PySem.W.fnOf "__init__" "BadSet.__init__" (defArgs s_BadSet_init) (defBody s_BadSet_init) (defScope s_BadSet_init) .none kV_BadSet_init dc_BadSet_init pm_BadSet_init an_BadSet_init cd_BadSet_init ct_BadSet_init), sl_BadSet_init⟩)
    (c_BadSet_init : PySem.W.codeIn K cd_BadSet_init "BadSet.__init__" = true)
    (k_BadSet_init : PySem.W.keepIn K (.ref f_BadSet_init) = true)
    (lk_BadNumber : K.lookup C_BadNumber = some (excClassObj nm_BadNumber qn_BadNumber C_BadNumber N_BadNumber bs_BadNumber bm_BadNumber true sn_BadNumber su_BadNumber ab_BadNumber co_BadNumber dd_BadNumber k0_BadNumber k1_BadNumber k2_BadNumber k3_BadNumber k5_BadNumber "ValueError.__new__"))
    (ki_rv_BadNumber : PySem.HandSPX.refsVE bm_BadNumber = true)
    (xsa_BadNumber : PySem.W.findIn K (.ref C_BadNumber) "__setattr__" = some (some (.builtin "object.__setattr__")))
    (xex_BadNumber : PySem.W.subIn K (.ref C_BadNumber) (.type "BaseException") = some true)
    (xty_BadNumber : PySem.W.typeIn K (.ref C_BadNumber) = some (.type "type"))
    (xkc_BadNumber : PySem.W.keepIn K (.ref C_BadNumber) = true)
    (xga_BadNumber : PySem.W.findIn K (.ref C_BadNumber) "__getattribute__" = some (some (.builtin "BaseException.__getattribute__")))
    (xgt_BadNumber : PySem.W.findIn K (.ref C_BadNumber) "__getattr__" = some none)
    (xhd_BadNumber : PySem.W.hasDictIn K C_BadNumber = true)
    (xha_BadNumber : PySem.W.findIn K (.ref C_BadNumber) "__class__" = some (some (.builtin "object.__class__")))
    (xmr_BadNumber : PySem.W.mroIn K C_BadNumber (.type "object") = some true)
    (xno_BadNumber : PySem.W.findIn K (.ref C_BadNumber) "number" = some none)
    (a_BadNumber_init : PySem.W.findIn K (.ref C_BadNumber) "__init__" = some (some (.ref f_BadNumber_init)))
    (xti_BadNumber_init : PySem.W.typeIn K (.ref f_BadNumber_init) = some (.type "function"))
    (l_BadNumber_init : K.lookup f_BadNumber_init = some ⟨oc_BadNumber_init, od_BadNumber_init, .func (PySem.W.fnOf "__init__" "BadNumber.__init__" (defArgs s_BadNumber_init) (defBody s_BadNumber_init) (defScope s_BadNumber_init) .none kV_BadNumber_init dc_BadNumber_init pm_BadNumber_init an_BadNumber_init cd_BadNumber_init ct_BadNumber_init), sl_BadNumber_init⟩)
    (c_BadNumber_init : PySem.W.codeIn K cd_BadNumber_init "BadNumber.__init__" = true)
    (k_BadNumber_init : PySem.W.keepIn K (.ref f_BadNumber_init) = true)
    (lk_BadLog : K.lookup C_BadLog = some (excClassObj nm_BadLog qn_BadLog C_BadLog N_BadLog bs_BadLog bm_BadLog true sn_BadLog su_BadLog ab_BadLog co_BadLog dd_BadLog k0_BadLog k1_BadLog k2_BadLog k3_BadLog k5_BadLog "ValueError.__new__"))
    (ki_rv_BadLog : PySem.HandSPX.refsVE bm_BadLog = true)
    (xsa_BadLog : PySem.W.findIn K (.ref C_BadLog) "__setattr__" = some (some (.builtin "object.__setattr__")))
    (xex_BadLog : PySem.W.subIn K (.ref C_BadLog) (.type "BaseException") = some true)
    (xty_BadLog : PySem.W.typeIn K (.ref C_BadLog) = some (.type "type"))
    (xkc_BadLog : PySem.W.keepIn K (.ref C_BadLog) = true)
    (xga_BadLog : PySem.W.findIn K (.ref C_BadLog) "__getattribute__" = some (some (.builtin "BaseException.__getattribute__")))
    (xgt_BadLog : PySem.W.findIn K (.ref C_BadLog) "__getattr__" = some none)
    (xhd_BadLog : PySem.W.hasDictIn K C_BadLog = true)
    (xha_BadLog : PySem.W.findIn K (.ref C_BadLog) "__class__" = some (some (.builtin "object.__class__")))
    (xmr_BadLog : PySem.W.mroIn K C_BadLog (.type "object") = some true)
    (xno_BadLog : PySem.W.findIn K (.ref C_BadLog) "at" = some none)
    (a_BadLog_init : PySem.W.findIn K (.ref C_BadLog) "__init__" = some (some (.ref f_BadLog_init)))
    (xti_BadLog_init : PySem.W.typeIn K (.ref f_BadLog_init) = some (.type "function"))
    (l_BadLog_init : K.lookup f_BadLog_init = some ⟨oc_BadLog_init, od_BadLog_init, .func (PySem.W.fnOf "__init__" "BadLog.__init__" (defArgs s_BadLog_init) (defBody s_BadLog_init) (defScope s_BadLog_init) .none kV_BadLog_init dc_BadLog_init pm_BadLog_init an_BadLog_init cd_BadLog_init ct_BadLog_init), sl_BadLog_init⟩)
    (c_BadLog_init : PySem.W.codeIn K cd_BadLog_init "BadLog.__init__" = true)
    (k_BadLog_init : PySem.W.keepIn K (.ref f_BadLog_init) = true)
    (lk_NoProduct : K.lookup C_NoProduct = some (excClassObj nm_NoProduct qn_NoProduct C_NoProduct N_NoProduct bs_NoProduct bm_NoProduct true sn_NoProduct su_NoProduct ab_NoProduct co_NoProduct dd_NoProduct k0_NoProduct k1_NoProduct k2_NoProduct k3_NoProduct k5_NoProduct "ValueError.__new__"))
    (ki_rv_NoProduct : PySem.HandSPX.refsVE bm_NoProduct = true)
    (xsa_NoProduct : PySem.W.findIn K (.ref C_NoProduct) "__setattr__" = some (some (.builtin "object.__setattr__")))
    (xex_NoProduct : PySem.W.subIn K (.ref C_NoProduct) (.type "BaseException") = some true)
    (xty_NoProduct : PySem.W.typeIn K (.ref C_NoProduct) = some (.type "type"))
    (xkc_NoProduct : PySem.W.keepIn K (.ref C_NoProduct) = true)
    (xga_NoProduct : PySem.W.findIn K (.ref C_NoProduct) "__getattribute__" = some (some (.builtin "BaseException.__getattribute__")))
    (xgt_NoProduct : PySem.W.findIn K (.ref C_NoProduct) "__getattr__" = some none)
    (xhd_NoProduct : PySem.W.hasDictIn K C_NoProduct = true)
    (xha_NoProduct : PySem.W.findIn K (.ref C_NoProduct) "__class__" = some (some (.builtin "object.__class__")))
    (xmr_NoProduct : PySem.W.mroIn K C_NoProduct (.type "object") = some true)
    (xno_NoProduct : PySem.W.findIn K (.ref C_NoProduct) "at" = some none)
    (a_NoProduct_init : PySem.W.findIn K (.ref C_NoProduct) "__init__" = some (some (.ref f_NoProduct_init)))
    (xti_NoProduct_init : PySem.W.typeIn K (.ref f_NoProduct_init) = some (.type "function"))
    (l_NoProduct_init : K.lookup f_NoProduct_init = some ⟨oc_NoProduct_init, od_NoProduct_init, .func (PySem.W.fnOf "__init__" "NoProduct.__init__" (defArgs s_NoProduct_init) (defBody s_NoProduct_init) (defScope s_NoProduct_init) .none kV_NoProduct_init dc_NoProduct_init pm_NoProduct_init an_NoProduct_init cd_NoProduct_init ct_NoProduct_init), sl_NoProduct_init⟩)
    (c_NoProduct_init : PySem.W.codeIn K cd_NoProduct_init "NoProduct.__init__" = true)
    (k_NoProduct_init : PySem.W.keepIn K (.ref f_NoProduct_init) = true)
    (lk_NotKept : K.lookup C_NotKept = some (excClassObj nm_NotKept qn_NotKept C_NotKept N_NotKept bs_NotKept bm_NotKept true sn_NotKept su_NotKept ab_NotKept co_NotKept dd_NotKept k0_NotKept k1_NotKept k2_NotKept k3_NotKept k5_NotKept "ValueError.__new__"))
    (ki_rv_NotKept : PySem.HandSPX.refsVE bm_NotKept = true)
    (xsa_NotKept : PySem.W.findIn K (.ref C_NotKept) "__setattr__" = some (some (.builtin "object.__setattr__")))
    (xex_NotKept : PySem.W.subIn K (.ref C_NotKept) (.type "BaseException") = some true)
    (xty_NotKept : PySem.W.typeIn K (.ref C_NotKept) = some (.type "type"))
    (xkc_NotKept : PySem.W.keepIn K (.ref C_NotKept) = true)
    (xga_NotKept : PySem.W.findIn K (.ref C_NotKept) "__getattribute__" = some (some (.builtin "BaseException.__getattribute__")))
    (xgt_NotKept : PySem.W.findIn K (.ref C_NotKept) "__getattr__" = some none)
    (xhd_NotKept : PySem.W.hasDictIn K C_NotKept = true)
    (xha_NotKept : PySem.W.findIn K (.ref C_NotKept) "__class__" = some (some (.builtin "object.__class__")))
    (xmr_NotKept : PySem.W.mroIn K C_NotKept (.type "object") = some true)
    (xno_NotKept : PySem.W.findIn K (.ref C_NotKept) "at" = some none)
    (a_NotKept_init : PySem.W.findIn K (.ref C_NotKept) "__init__" = some (some (.ref f_NotKept_init)))
    (xti_NotKept_init : PySem.W.typeIn K (.ref f_NotKept_init) = some (.type "function"))
    (l_NotKept_init : K.lookup f_NotKept_init = some ⟨oc_NotKept_init, od_NotKept_init, .func (PySem.W.fnOf "__init__" "NotKept.__init__" (defArgs s_NotKept_init) (defBody s_NotKept_init) (defScope s_NotKept_init) .none kV_NotKept_init dc_NotKept_init pm_NotKept_init an_NotKept_init cd_NotKept_init ct_NotKept_init), sl_NotKept_init⟩)
    (c_NotKept_init : PySem.W.codeIn K cd_NotKept_init "NotKept.__init__" = true)
    (k_NotKept_init : PySem.W.keepIn K (.ref f_NotKept_init) = true)
    (lk_TooMany : K.lookup C_TooMany = some (excClassObj nm_TooMany qn_TooMany C_TooMany N_TooMany bs_TooMany bm_TooMany true sn_TooMany su_TooMany ab_TooMany co_TooMany dd_TooMany k0_TooMany k1_TooMany k2_TooMany k3_TooMany k5_TooMany "ValueError.__new__"))
    (ki_rv_TooMany : PySem.HandSPX.refsVE bm_TooMany = true)
    (xsa_TooMany : PySem.W.findIn K (.ref C_TooMany) "__setattr__" = some (some (.builtin "object.__setattr__")))
    (xex_TooMany : PySem.W.subIn K (.ref C_TooMany) (.type "BaseException") = some true)
    (xty_TooMany : PySem.W.typeIn K (.ref C_TooMany) = some (.type "type"))
    (xkc_TooMany : PySem.W.keepIn K (.ref C_TooMany) = true)
    (xga_TooMany : PySem.W.findIn K (.ref C_TooMany) "__getattribute__" = some (some (.builtin "BaseException.__getattribute__")))
    (xgt_TooMany : PySem.W.findIn K (.ref C_TooMany) "__getattr__" = some none)
    (xhd_TooMany : PySem.W.hasDictIn K C_TooMany = true)
    (xha_TooMany : PySem.W.findIn K (.ref C_TooMany) "__class__" = some (some (.builtin "object.__class__")))
    (xmr_TooMany : PySem.W.mroIn K C_TooMany (.type "object") = some true)
    (xno_TooMany : PySem.W.findIn K (.ref C_TooMany) "limit" = some none)
    (a_TooMany_init : PySem.W.findIn K (.ref C_TooMany) "__init__" = some (some (.ref f_TooMany_init)))
    (xti_TooMany_init : PySem.W.typeIn K (.ref f_TooMany_init) = some (.type "function"))
    (l_TooMany_init : K.lookup f_TooMany_init = some ⟨oc_TooMany_init, od_TooMany_init, .func (PySem.W.fnOf "__init__" "TooMany.__init__" (defArgs s_TooMany_init) (defBody s_TooMany_init) (defScope s_TooMany_init) .none kV_TooMany_init dc_TooMany_init pm_TooMany_init an_TooMany_init cd_TooMany_init ct_TooMany_init), sl_TooMany_init⟩)
    (c_TooMany_init : PySem.W.codeIn K cd_TooMany_init "TooMany.__init__" = true)
    (k_TooMany_init : PySem.W.keepIn K (.ref f_TooMany_init) = true)
    (lk_BadWeight : K.lookup C_BadWeight = some (excClassObj nm_BadWeight qn_BadWeight C_BadWeight N_BadWeight bs_BadWeight bm_BadWeight true sn_BadWeight su_BadWeight ab_BadWeight co_BadWeight dd_BadWeight k0_BadWeight k1_BadWeight k2_BadWeight k3_BadWeight k5_BadWeight "ValueError.__new__"))
    (ki_rv_BadWeight : PySem.HandSPX.refsVE bm_BadWeight = true)
    (xsa_BadWeight : PySem.W.findIn K (.ref C_BadWeight) "__setattr__" = some (some (.builtin "object.__setattr__")))
    (xex_BadWeight : PySem.W.subIn K (.ref C_BadWeight) (.type "BaseException") = some true)
    (xty_BadWeight : PySem.W.typeIn K (.ref C_BadWeight) = some (.type "type"))
    (xkc_BadWeight : PySem.W.keepIn K (.ref C_BadWeight) = true)
    (xga_BadWeight : PySem.W.findIn K (.ref C_BadWeight) "__getattribute__" = some (some (.builtin "BaseException.__getattribute__")))
    (xgt_BadWeight : PySem.W.findIn K (.ref C_BadWeight) "__getattr__" = some none)
    (xhd_BadWeight : PySem.W.hasDictIn K C_BadWeight = true)
    (xha_BadWeight : PySem.W.findIn K (.ref C_BadWeight) "__class__" = some (some (.builtin "object.__class__")))
    (xmr_BadWeight : PySem.W.mroIn K C_BadWeight (.type "object") = some true)
    (xno_BadWeight : PySem.W.findIn K (.ref C_BadWeight) "weight" = some none)
    (a_BadWeight_init : PySem.W.findIn K (.ref C_BadWeight) "__init__" = some (some (.ref f_BadWeight_init)))
    (xti_BadWeight_init : PySem.W.typeIn K (.ref f_BadWeight_init) = some (.type "function"))
    (l_BadWeight_init : K.lookup f_BadWeight_init = some ⟨oc_BadWeight_init, od_BadWeight_init, .func (PySem.W.fnOf "__init__" "BadWeight.__init__" (defArgs s_BadWeight_init) (defBody s_BadWeight_init) (defScope s_BadWeight_init) .none kV_BadWeight_init dc_BadWeight_init pm_BadWeight_init an_BadWeight_init cd_BadWeight_init ct_BadWeight_init), sl_BadWeight_init⟩)
    (c_BadWeight_init : PySem.W.codeIn K cd_BadWeight_init "BadWeight.__init__" = true)
    (k_BadWeight_init : PySem.W.keepIn K (.ref f_BadWeight_init) = true)
    (lk_NoPlace : K.lookup C_NoPlace = some (excClassObj nm_NoPlace qn_NoPlace C_NoPlace N_NoPlace bs_NoPlace bm_NoPlace true sn_NoPlace su_NoPlace ab_NoPlace co_NoPlace dd_NoPlace k0_NoPlace k1_NoPlace k2_NoPlace k3_NoPlace k5_NoPlace "ValueError.__new__"))
    (ki_rv_NoPlace : PySem.HandSPX.refsVE bm_NoPlace = true)
    (xsa_NoPlace : PySem.W.findIn K (.ref C_NoPlace) "__setattr__" = some (some (.builtin "object.__setattr__")))
    (xex_NoPlace : PySem.W.subIn K (.ref C_NoPlace) (.type "BaseException") = some true)
    (xty_NoPlace : PySem.W.typeIn K (.ref C_NoPlace) = some (.type "type"))
    (xkc_NoPlace : PySem.W.keepIn K (.ref C_NoPlace) = true)
    (xga_NoPlace : PySem.W.findIn K (.ref C_NoPlace) "__getattribute__" = some (some (.builtin "BaseException.__getattribute__")))
    (xgt_NoPlace : PySem.W.findIn K (.ref C_NoPlace) "__getattr__" = some none)
    (xhd_NoPlace : PySem.W.hasDictIn K C_NoPlace = true)
    (xha_NoPlace : PySem.W.findIn K (.ref C_NoPlace) "__class__" = some (some (.builtin "object.__class__")))
    (xmr_NoPlace : PySem.W.mroIn K C_NoPlace (.type "object") = some true)
    (xno_NoPlace : PySem.W.findIn K (.ref C_NoPlace) "place" = some none)
    (a_NoPlace_init : PySem.W.findIn K (.ref C_NoPlace) "__init__" = some (some (.ref f_NoPlace_init)))
    (xti_NoPlace_init : PySem.W.typeIn K (.ref f_NoPlace_init) = some (.type "function"))
    (l_NoPlace_init : K.lookup f_NoPlace_init = some ⟨oc_NoPlace_init, od_NoPlace_init, .func (PySem.W.fnOf "__init__" "NoPlace.__init__" (defArgs s_NoPlace_init) (defBody s_NoPlace_init) (defScope s_NoPlace_init) .none kV_NoPlace_init dc_NoPlace_init pm_NoPlace_init an_NoPlace_init cd_NoPlace_init ct_NoPlace_init), sl_NoPlace_init⟩)
    (c_NoPlace_init : PySem.W.codeIn K cd_NoPlace_init "NoPlace.__init__" = true)
    (k_NoPlace_init : PySem.W.keepIn K (.ref f_NoPlace_init) = true)
    (lk_BadDependence : K.lookup C_BadDependence = some (excClassObj nm_BadDependence qn_BadDependence C_BadDependence N_BadDependence bs_BadDependence bm_BadDependence true sn_BadDependence su_BadDependence ab_BadDependence co_BadDependence dd_BadDependence k0_BadDependence k1_BadDependence k2_BadDependence k3_BadDependence k5_BadDependence "ValueError.__new__"))
    (ki_rv_BadDependence : PySem.HandSPX.refsVE bm_BadDependence = true)
    (xsa_BadDependence : PySem.W.findIn K (.ref C_BadDependence) "__setattr__" = some (some (.builtin "object.__setattr__")))
    (xex_BadDependence : PySem.W.subIn K (.ref C_BadDependence) (.type "BaseException") = some true)
    (xty_BadDependence : PySem.W.typeIn K (.ref C_BadDependence) = some (.type "type"))
    (xkc_BadDependence : PySem.W.keepIn K (.ref C_BadDependence) = true)
    (xga_BadDependence : PySem.W.findIn K (.ref C_BadDependence) "__getattribute__" = some (some (.builtin "BaseException.__getattribute__")))
    (xgt_BadDependence : PySem.W.findIn K (.ref C_BadDependence) "__getattr__" = some none)
    (xhd_BadDependence : PySem.W.hasDictIn K C_BadDependence = true)
    (xha_BadDependence : PySem.W.findIn K (.ref C_BadDependence) "__class__" = some (some (.builtin "object.__class__")))
    (xmr_BadDependence : PySem.W.mroIn K C_BadDependence (.type "object") = some true)
    (xno_BadDependence : PySem.W.findIn K (.ref C_BadDependence) "at" = some none)
    (a_BadDependence_init : PySem.W.findIn K (.ref C_BadDependence) "__init__" = some (some (.ref f_BadDependence_init)))
    (xti_BadDependence_init : PySem.W.typeIn K (.ref f_BadDependence_init) = some (.type "function"))
    (l_BadDependence_init : K.lookup f_BadDependence_init = some ⟨oc_BadDependence_init, od_BadDependence_init, .func (PySem.W.fnOf "__init__" "BadDependence.__init__" (defArgs s_BadDependence_init) (defBody s_BadDependence_init) (defScope s_BadDependence_init) .none kV_BadDependence_init dc_BadDependence_init pm_BadDependence_init an_BadDependence_init cd_BadDependence_init ct_BadDependence_init), sl_BadDependence_init⟩)
    (c_BadDependence_init : PySem.W.codeIn K cd_BadDependence_init "BadDependence.__init__" = true)
    (k_BadDependence_init : PySem.W.keepIn K (.ref f_BadDependence_init) = true)
    (lk_BadColumns : K.lookup C_BadColumns = some (excClassObj nm_BadColumns qn_BadColumns C_BadColumns N_BadColumns bs_BadColumns bm_BadColumns true sn_BadColumns su_BadColumns ab_BadColumns co_BadColumns dd_BadColumns k0_BadColumns k1_BadColumns k2_BadColumns k3_BadColumns k5_BadColumns "ValueError.__new__"))
    (ki_rv_BadColumns : PySem.HandSPX.refsVE bm_BadColumns = true)
    (xsa_BadColumns : PySem.W.findIn K (.ref C_BadColumns) "__setattr__" = some (some (.builtin "object.__setattr__")))
    (xex_BadColumns : PySem.W.subIn K (.ref C_BadColumns) (.type "BaseException") = some true)
    (xty_BadColumns : PySem.W.typeIn K (.ref C_BadColumns) = some (.type "type"))
    (xkc_BadColumns : PySem.W.keepIn K (.ref C_BadColumns) = true)
    (xga_BadColumns : PySem.W.findIn K (.ref C_BadColumns) "__getattribute__" = some (some (.builtin "BaseException.__getattribute__")))
    (xgt_BadColumns : PySem.W.findIn K (.ref C_BadColumns) "__getattr__" = some none)
    (xhd_BadColumns : PySem.W.hasDictIn K C_BadColumns = true)
    (xha_BadColumns : PySem.W.findIn K (.ref C_BadColumns) "__class__" = some (some (.builtin "object.__class__")))
    (xmr_BadColumns : PySem.W.mroIn K C_BadColumns (.type "object") = some true)
    (xno_BadColumns : PySem.W.findIn K (.ref C_BadColumns) "given" = some none)
    (a_BadColumns_init : PySem.W.findIn K (.ref C_BadColumns) "__init__" = some (some (.ref f_BadColumns_init)))
    (xti_BadColumns_init : PySem.W.typeIn K (.ref f_BadColumns_init) = some (.type "function"))
    (l_BadColumns_init : K.lookup f_BadColumns_init = some ⟨oc_BadColumns_init, od_BadColumns_init, .func (PySem.W.fnOf "__init__" "BadColumns.__init__" (defArgs s_BadColumns_init) (defBody s_BadColumns_init) (defScope s_BadColumns_init) .none kV_BadColumns_init dc_BadColumns_init pm_BadColumns_init an_BadColumns_init cd_BadColumns_init ct_BadColumns_init), sl_BadColumns_init⟩)
    (c_BadColumns_init : PySem.W.codeIn K cd_BadColumns_init "BadColumns.__init__" = true)
    (k_BadColumns_init : PySem.W.keepIn K (.ref f_BadColumns_init) = true)
    (kk_xi_BadColumns_MeanError : PySem.W.kitOne K (.ref C_MeanError) (.ref C_BadColumns) = some false)
    (kk_xi_BadColumns_BadText : PySem.W.kitOne K (.ref C_BadText) (.ref C_BadColumns) = some false)
    (kk_xi_BadColumns_BadLevel : PySem.W.kitOne K (.ref C_BadLevel) (.ref C_BadColumns) = some false)
    (kk_xi_BadColumns_BadRow : PySem.W.kitOne K (.ref C_BadRow) (.ref C_BadColumns) = some false)
    (kk_xi_BadColumns_BadSet : PySem.W.kitOne K (.ref C_BadSet) (.ref C_BadColumns) = some false)
    (kk_xi_BadColumns_BadNumber : PySem.W.kitOne K (.ref C_BadNumber) (.ref C_BadColumns) = some false)
    (kk_xi_BadColumns_NothingLeft : PySem.W.kitOne K (.ref C_NothingLeft) (.ref C_BadColumns) = some false)
    (kk_xi_BadColumns_NoTable : PySem.W.kitOne K (.ref C_NoTable) (.ref C_BadColumns) = some false)
    (kk_xi_BadColumns_BadLog : PySem.W.kitOne K (.ref C_BadLog) (.ref C_BadColumns) = some false)
    (kk_xi_BadColumns_NoProduct : PySem.W.kitOne K (.ref C_NoProduct) (.ref C_BadColumns) = some false)
    (kk_xi_BadColumns_NotKept : PySem.W.kitOne K (.ref C_NotKept) (.ref C_BadColumns) = some false)
    (kk_xi_BadColumns_TooMany : PySem.W.kitOne K (.ref C_TooMany) (.ref C_BadColumns) = some false)
    (kk_xi_BadColumns_BadWeight : PySem.W.kitOne K (.ref C_BadWeight) (.ref C_BadColumns) = some false)
    (kk_xi_BadColumns_NoPlace : PySem.W.kitOne K (.ref C_NoPlace) (.ref C_BadColumns) = some false)
    (kk_xi_BadColumns_BadDependence : PySem.W.kitOne K (.ref C_BadDependence) (.ref C_BadColumns) = some false)
    (kk_xi_BadColumns_BadColumns : PySem.W.kitOne K (.ref C_BadColumns) (.ref C_BadColumns) = some true)
    (kk_xi_BadDependence_MeanError : PySem.W.kitOne K (.ref C_MeanError) (.ref C_BadDependence) = some false)
    (kk_xi_BadDependence_BadText : PySem.W.kitOne K (.ref C_BadText) (.ref C_BadDependence) = some false)
    (kk_xi_BadDependence_BadLevel : PySem.W.kitOne K (.ref C_BadLevel) (.ref C_BadDependence) = some false)
    (kk_xi_BadDependence_BadRow : PySem.W.kitOne K (.ref C_BadRow) (.ref C_BadDependence) = some false)
    (kk_xi_BadDependence_BadSet : PySem.W.kitOne K (.ref C_BadSet) (.ref C_BadDependence) = some false)
    (kk_xi_BadDependence_BadNumber : PySem.W.kitOne K (.ref C_BadNumber) (.ref C_BadDependence) = some false)
    (kk_xi_BadDependence_NothingLeft : PySem.W.kitOne K (.ref C_NothingLeft) (.ref C_BadDependence) = some false)
    (kk_xi_BadDependence_NoTable : PySem.W.kitOne K (.ref C_NoTable) (.ref C_BadDependence) = some false)
    (kk_xi_BadDependence_BadLog : PySem.W.kitOne K (.ref C_BadLog) (.ref C_BadDependence) = some false)
    (kk_xi_BadDependence_NoProduct : PySem.W.kitOne K (.ref C_NoProduct) (.ref C_BadDependence) = some false)
    (kk_xi_BadDependence_NotKept : PySem.W.kitOne K (.ref C_NotKept) (.ref C_BadDependence) = some false)
    (kk_xi_BadDependence_TooMany : PySem.W.kitOne K (.ref C_TooMany) (.ref C_BadDependence) = some false)
    (kk_xi_BadDependence_BadWeight : PySem.W.kitOne K (.ref C_BadWeight) (.ref C_BadDependence) = some false)
    (kk_xi_BadDependence_NoPlace : PySem.W.kitOne K (.ref C_NoPlace) (.ref C_BadDependence) = some false)
    (kk_xi_BadDependence_BadDependence : PySem.W.kitOne K (.ref C_BadDependence) (.ref C_BadDependence) = some true)
    (kk_xi_BadDependence_BadColumns : PySem.W.kitOne K (.ref C_BadColumns) (.ref C_BadDependence) = some false)
    (kk_xi_BadLevel_MeanError : PySem.W.kitOne K (.ref C_MeanError) (.ref C_BadLevel) = some false)
    (kk_xi_BadLevel_BadText : PySem.W.kitOne K (.ref C_BadText) (.ref C_BadLevel) = some false)
    (kk_xi_BadLevel_BadLevel : PySem.W.kitOne K (.ref C_BadLevel) (.ref C_BadLevel) = some true)
    (kk_xi_BadLevel_BadRow : PySem.W.kitOne K (.ref C_BadRow) (.ref C_BadLevel) = some false)
    (kk_xi_BadLevel_BadSet : PySem.W.kitOne K (.ref C_BadSet) (.ref C_BadLevel) = some false)
    (kk_xi_BadLevel_BadNumber : PySem.W.kitOne K (.ref C_BadNumber) (.ref C_BadLevel) = some false)
    (kk_xi_BadLevel_NothingLeft : PySem.W.kitOne K (.ref C_NothingLeft) (.ref C_BadLevel) = some false)
    (kk_xi_BadLevel_NoTable : PySem.W.kitOne K (.ref C_NoTable) (.ref C_BadLevel) = some false)
    (kk_xi_BadLevel_BadLog : PySem.W.kitOne K (.ref C_BadLog) (.ref C_BadLevel) = some false)
    (kk_xi_BadLevel_NoProduct : PySem.W.kitOne K (.ref C_NoProduct) (.ref C_BadLevel) = some false)
    (kk_xi_BadLevel_NotKept : PySem.W.kitOne K (.ref C_NotKept) (.ref C_BadLevel) = some false)
    (kk_xi_BadLevel_TooMany : PySem.W.kitOne K (.ref C_TooMany) (.ref C_BadLevel) = some false)
    (kk_xi_BadLevel_BadWeight : PySem.W.kitOne K (.ref C_BadWeight) (.ref C_BadLevel) = some false)
    (kk_xi_BadLevel_NoPlace : PySem.W.kitOne K (.ref C_NoPlace) (.ref C_BadLevel) = some false)
    (kk_xi_BadLevel_BadDependence : PySem.W.kitOne K (.ref C_BadDependence) (.ref C_BadLevel) = some false)
    (kk_xi_BadLevel_BadColumns : PySem.W.kitOne K (.ref C_BadColumns) (.ref C_BadLevel) = some false)
    (kk_xi_BadLog_MeanError : PySem.W.kitOne K (.ref C_MeanError) (.ref C_BadLog) = some false)
    (kk_xi_BadLog_BadText : PySem.W.kitOne K (.ref C_BadText) (.ref C_BadLog) = some false)
    (kk_xi_BadLog_BadLevel : PySem.W.kitOne K (.ref C_BadLevel) (.ref C_BadLog) = some false)
    (kk_xi_BadLog_BadRow : PySem.W.kitOne K (.ref C_BadRow) (.ref C_BadLog) = some false)
    (kk_xi_BadLog_BadSet : PySem.W.kitOne K (.ref C_BadSet) (.ref C_BadLog) = some false)
    (kk_xi_BadLog_BadNumber : PySem.W.kitOne K (.ref C_BadNumber) (.ref C_BadLog) = some false)
    (kk_xi_BadLog_NothingLeft : PySem.W.kitOne K (.ref C_NothingLeft) (.ref C_BadLog) = some false)
    (kk_xi_BadLog_NoTable : PySem.W.kitOne K (.ref C_NoTable) (.ref C_BadLog) = some false)
    (kk_xi_BadLog_BadLog : PySem.W.kitOne K (.ref C_BadLog) (.ref C_BadLog) = some true)
    (kk_xi_BadLog_NoProduct : PySem.W.kitOne K (.ref C_NoProduct) (.ref C_BadLog) = some false)
    (kk_xi_BadLog_NotKept : PySem.W.kitOne K (.ref C_NotKept) (.ref C_BadLog) = some false)
    (kk_xi_BadLog_TooMany : PySem.W.kitOne K (.ref C_TooMany) (.ref C_BadLog) = some false)
    (kk_xi_BadLog_BadWeight : PySem.W.kitOne K (.ref C_BadWeight) (.ref C_BadLog) = some false)
    (kk_xi_BadLog_NoPlace : PySem.W.kitOne K (.ref C_NoPlace) (.ref C_BadLog) = some false)
    (kk_xi_BadLog_BadDependence : PySem.W.kitOne K (.ref C_BadDependence) (.ref C_BadLog) = some false)
    (kk_xi_BadLog_BadColumns : PySem.W.kitOne K (.ref C_BadColumns) (.ref C_BadLog) = some false)
    (kk_xi_BadNumber_MeanError : PySem.W.kitOne K (.ref C_MeanError) (.ref C_BadNumber) = some false)
    (kk_xi_BadNumber_BadText : PySem.W.kitOne K (.ref C_BadText) (.ref C_BadNumber) = some false)
    (kk_xi_BadNumber_BadLevel : PySem.W.kitOne K (.ref C_BadLevel) (.ref C_BadNumber) = some false)
    (kk_xi_BadNumber_BadRow : PySem.W.kitOne K (.ref C_BadRow) (.ref C_BadNumber) = some false)
    (kk_xi_BadNumber_BadSet : PySem.W.kitOne K (.ref C_BadSet) (.ref C_BadNumber) = some false)
    (kk_xi_BadNumber_BadNumber : PySem.W.kitOne K (.ref C_BadNumber) (.ref C_BadNumber) = some true)
    (kk_xi_BadNumber_NothingLeft : PySem.W.kitOne K (.ref C_NothingLeft) (.ref C_BadNumber) = some false)
    (kk_xi_BadNumber_NoTable : PySem.W.kitOne K (.ref C_NoTable) (.ref C_BadNumber) = some false)
    (kk_xi_BadNumber_BadLog : PySem.W.kitOne K (.ref C_BadLog) (.ref C_BadNumber) = some false)
    (kk_xi_BadNumber_NoProduct : PySem.W.kitOne K (.ref C_NoProduct) (.ref C_BadNumber) = some false)
    (kk_xi_BadNumber_NotKept : PySem.W.kitOne K (.ref C_NotKept) (.ref C_BadNumber) = some false)
    (kk_xi_BadNumber_TooMany : PySem.W.kitOne K (.ref C_TooMany) (.ref C_BadNumber) = some false)
    (kk_xi_BadNumber_BadWeight : PySem.W.kitOne K (.ref C_BadWeight) (.ref C_BadNumber) = some false)
    (kk_xi_BadNumber_NoPlace : PySem.W.kitOne K (.ref C_NoPlace) (.ref C_BadNumber) = some false)
    (kk_xi_BadNumber_BadDependence : PySem.W.kitOne K (.ref C_BadDependence) (.ref C_BadNumber) = some false)
    (kk_xi_BadNumber_BadColumns : PySem.W.kitOne K (.ref C_BadColumns) (.ref C_BadNumber) = some false)
    (kk_xi_BadRow_MeanError : PySem.W.kitOne K (.ref C_MeanError) (.ref C_BadRow) = some false)
    (kk_xi_BadRow_BadText : PySem.W.kitOne K (.ref C_BadText) (.ref C_BadRow) = some false)
    (kk_xi_BadRow_BadLevel : PySem.W.kitOne K (.ref C_BadLevel) (.ref C_BadRow) = some false)
    (kk_xi_BadRow_BadRow : PySem.W.kitOne K (.ref C_BadRow) (.ref C_BadRow) = some true)
    (kk_xi_BadRow_BadSet : PySem.W.kitOne K (.ref C_BadSet) (.ref C_BadRow) = some false)
    (kk_xi_BadRow_BadNumber : PySem.W.kitOne K (.ref C_BadNumber) (.ref C_BadRow) = some false)
    (kk_xi_BadRow_NothingLeft : PySem.W.kitOne K (.ref C_NothingLeft) (.ref C_BadRow) = some false)
    (kk_xi_BadRow_NoTable : PySem.W.kitOne K (.ref C_NoTable) (.ref C_BadRow) = some false)
    (kk_xi_BadRow_BadLog : PySem.W.kitOne K (.ref C_BadLog) (.ref C_BadRow) = some false)
    (kk_xi_BadRow_NoProduct : PySem.W.kitOne K (.ref C_NoProduct) (.ref C_BadRow) = some false)
    (kk_xi_BadRow_NotKept : PySem.W.kitOne K (.ref C_NotKept) (.ref C_BadRow) = some false)
    (kk_xi_BadRow_TooMany : PySem.W.kitOne K (.ref C_TooMany) (.ref C_BadRow) = some false)
    (kk_xi_BadRow_BadWeight : PySem.W.kitOne K (.ref C_BadWeight) (.ref C_BadRow) = some false)
    (kk_xi_BadRow_NoPlace : PySem.W.kitOne K (.ref C_NoPlace) (.ref C_BadRow) = some false)
    (kk_xi_BadRow_BadDependence : PySem.W.kitOne K (.ref C_BadDependence) (.ref C_BadRow) = some false)
    (kk_xi_BadRow_BadColumns : PySem.W.kitOne K (.ref C_BadColumns) (.ref C_BadRow) = some false)
    (kk_xi_BadSet_MeanError : PySem.W.kitOne K (.ref C_MeanError) (.ref C_BadSet) = some false)
    (kk_xi_BadSet_BadText : PySem.W.kitOne K (.ref C_BadText) (.ref C_BadSet) = some false)
    (kk_xi_BadSet_BadLevel : PySem.W.kitOne K (.ref C_BadLevel) (.ref C_BadSet) = some false)
    (kk_xi_BadSet_BadRow : PySem.W.kitOne K (.ref C_BadRow) (.ref C_BadSet) = some false)
    (kk_xi_BadSet_BadSet : PySem.W.kitOne K (.ref C_BadSet) (.ref C_BadSet) = some true)
    (kk_xi_BadSet_BadNumber : PySem.W.kitOne K (.ref C_BadNumber) (.ref C_BadSet) = some false)
    (kk_xi_BadSet_NothingLeft : PySem.W.kitOne K (.ref C_NothingLeft) (.ref C_BadSet) = some false)
    (kk_xi_BadSet_NoTable : PySem.W.kitOne K (.ref C_NoTable) (.ref C_BadSet) = some false)
    (kk_xi_BadSet_BadLog : PySem.W.kitOne K (.ref C_BadLog) (.ref C_BadSet) = some false)
    (kk_xi_BadSet_NoProduct : PySem.W.kitOne K (.ref C_NoProduct) (.ref C_BadSet) = some false)
    (kk_xi_BadSet_NotKept : PySem.W.kitOne K (.ref C_NotKept) (.ref C_BadSet) = some false)
    (kk_xi_BadSet_TooMany : PySem.W.kitOne K (.ref C_TooMany) (.ref C_BadSet) = some false)
    (kk_xi_BadSet_BadWeight : PySem.W.kitOne K (.ref C_BadWeight) (.ref C_BadSet) = some false)
    (kk_xi_BadSet_NoPlace : PySem.W.kitOne K (.ref C_NoPlace) (.ref C_BadSet) = some false)
    (kk_xi_BadSet_BadDependence : PySem.W.kitOne K (.ref C_BadDependence) (.ref C_BadSet) = some false)
    (kk_xi_BadSet_BadColumns : PySem.W.kitOne K (.ref C_BadColumns) (.ref C_BadSet) = some false)
    (kk_xi_BadText_MeanError : PySem.W.kitOne K (.ref C_MeanError) (.ref C_BadText) = some false)
    (kk_xi_BadText_BadText : PySem.W.kitOne K (.ref C_BadText) (.ref C_BadText) = some true)
    (kk_xi_BadText_BadLevel : PySem.W.kitOne K (.ref C_BadLevel) (.ref C_BadText) = some false)
    (kk_xi_BadText_BadRow : PySem.W.kitOne K (.ref C_BadRow) (.ref C_BadText) = some false)
    (kk_xi_BadText_BadSet : PySem.W.kitOne K (.ref C_BadSet) (.ref C_BadText) = some false)
    (kk_xi_BadText_BadNumber : PySem.W.kitOne K (.ref C_BadNumber) (.ref C_BadText) = some false)
    (kk_xi_BadText_NothingLeft : PySem.W.kitOne K (.ref C_NothingLeft) (.ref C_BadText) = some false)
    (kk_xi_BadText_NoTable : PySem.W.kitOne K (.ref C_NoTable) (.ref C_BadText) = some false)
    (kk_xi_BadText_BadLog : PySem.W.kitOne K (.ref C_BadLog) (.ref C_BadText) = some false)
    (kk_xi_BadText_NoProduct : PySem.W.kitOne K (.ref C_NoProduct) (.ref C_BadText) = some false)
    (kk_xi_BadText_NotKept : PySem.W.kitOne K (.ref C_NotKept) (.ref C_BadText) = some false)
    (kk_xi_BadText_TooMany : PySem.W.kitOne K (.ref C_TooMany) (.ref C_BadText) = some false)
    (kk_xi_BadText_BadWeight : PySem.W.kitOne K (.ref C_BadWeight) (.ref C_BadText) = some false)
    (kk_xi_BadText_NoPlace : PySem.W.kitOne K (.ref C_NoPlace) (.ref C_BadText) = some false)
    (kk_xi_BadText_BadDependence : PySem.W.kitOne K (.ref C_BadDependence) (.ref C_BadText) = some false)
    (kk_xi_BadText_BadColumns : PySem.W.kitOne K (.ref C_BadColumns) (.ref C_BadText) = some false)
    (kk_xi_BadWeight_MeanError : PySem.W.kitOne K (.ref C_MeanError) (.ref C_BadWeight) = some false)
    (kk_xi_BadWeight_BadText : PySem.W.kitOne K (.ref C_BadText) (.ref C_BadWeight) = some false)
    (kk_xi_BadWeight_BadLevel : PySem.W.kitOne K (.ref C_BadLevel) (.ref C_BadWeight) = some false)
    (kk_xi_BadWeight_BadRow : PySem.W.kitOne K (.ref C_BadRow) (.ref C_BadWeight) = some false)
    (kk_xi_BadWeight_BadSet : PySem.W.kitOne K (.ref C_BadSet) (.ref C_BadWeight) = some false)
    (kk_xi_BadWeight_BadNumber : PySem.W.kitOne K (.ref C_BadNumber) (.ref C_BadWeight) = some false)
    (kk_xi_BadWeight_NothingLeft : PySem.W.kitOne K (.ref C_NothingLeft) (.ref C_BadWeight) = some false)
    (kk_xi_BadWeight_NoTable : PySem.W.kitOne K (.ref C_NoTable) (.ref C_BadWeight) = some false)
    (kk_xi_BadWeight_BadLog : PySem.W.kitOne K (.ref C_BadLog) (.ref C_BadWeight) = some false)
    (kk_xi_BadWeight_NoProduct : PySem.W.kitOne K (.ref C_NoProduct) (.ref C_BadWeight) = some false)
    (kk_xi_BadWeight_NotKept : PySem.W.kitOne K (.ref C_NotKept) (.ref C_BadWeight) = some false)
    (kk_xi_BadWeight_TooMany : PySem.W.kitOne K (.ref C_TooMany) (.ref C_BadWeight) = some false)
    (kk_xi_BadWeight_BadWeight : PySem.W.kitOne K (.ref C_BadWeight) (.ref C_BadWeight) = some true)
    (kk_xi_BadWeight_NoPlace : PySem.W.kitOne K (.ref C_NoPlace) (.ref C_BadWeight) = some false)
    (kk_xi_BadWeight_BadDependence : PySem.W.kitOne K (.ref C_BadDependence) (.ref C_BadWeight) = some false)
    (kk_xi_BadWeight_BadColumns : PySem.W.kitOne K (.ref C_BadColumns) (.ref C_BadWeight) = some false)
    (kk_xi_MeanError_MeanError : PySem.W.kitOne K (.ref C_MeanError) (.ref C_MeanError) = some true)
    (kk_xi_MeanError_BadText : PySem.W.kitOne K (.ref C_BadText) (.ref C_MeanError) = some true)
    (kk_xi_MeanError_BadLevel : PySem.W.kitOne K (.ref C_BadLevel) (.ref C_MeanError) = some true)
    (kk_xi_MeanError_BadRow : PySem.W.kitOne K (.ref C_BadRow) (.ref C_MeanError) = some true)
    (kk_xi_MeanError_BadSet : PySem.W.kitOne K (.ref C_BadSet) (.ref C_MeanError) = some true)
    (kk_xi_MeanError_BadNumber : PySem.W.kitOne K (.ref C_BadNumber) (.ref C_MeanError) = some true)
    (kk_xi_MeanError_NothingLeft : PySem.W.kitOne K (.ref C_NothingLeft) (.ref C_MeanError) = some true)
    (kk_xi_MeanError_NoTable : PySem.W.kitOne K (.ref C_NoTable) (.ref C_MeanError) = some true)
    (kk_xi_MeanError_BadLog : PySem.W.kitOne K (.ref C_BadLog) (.ref C_MeanError) = some true)
    (kk_xi_MeanError_NoProduct : PySem.W.kitOne K (.ref C_NoProduct) (.ref C_MeanError) = some true)
    (kk_xi_MeanError_NotKept : PySem.W.kitOne K (.ref C_NotKept) (.ref C_MeanError) = some true)
    (kk_xi_MeanError_TooMany : PySem.W.kitOne K (.ref C_TooMany) (.ref C_MeanError) = some true)
    (kk_xi_MeanError_BadWeight : PySem.W.kitOne K (.ref C_BadWeight) (.ref C_MeanError) = some true)
    (kk_xi_MeanError_NoPlace : PySem.W.kitOne K (.ref C_NoPlace) (.ref C_MeanError) = some true)
    (kk_xi_MeanError_BadDependence : PySem.W.kitOne K (.ref C_BadDependence) (.ref C_MeanError) = some true)
    (kk_xi_MeanError_BadColumns : PySem.W.kitOne K (.ref C_BadColumns) (.ref C_MeanError) = some true)
    (kk_xi_NoPlace_MeanError : PySem.W.kitOne K (.ref C_MeanError) (.ref C_NoPlace) = some false)
    (kk_xi_NoPlace_BadText : PySem.W.kitOne K (.ref C_BadText) (.ref C_NoPlace) = some false)
    (kk_xi_NoPlace_BadLevel : PySem.W.kitOne K (.ref C_BadLevel) (.ref C_NoPlace) = some false)
    (kk_xi_NoPlace_BadRow : PySem.W.kitOne K (.ref C_BadRow) (.ref C_NoPlace) = some false)
    (kk_xi_NoPlace_BadSet : PySem.W.kitOne K (.ref C_BadSet) (.ref C_NoPlace) = some false)
    (kk_xi_NoPlace_BadNumber : PySem.W.kitOne K (.ref C_BadNumber) (.ref C_NoPlace) = some false)
    (kk_xi_NoPlace_NothingLeft : PySem.W.kitOne K (.ref C_NothingLeft) (.ref C_NoPlace) = some false)
    (kk_xi_NoPlace_NoTable : PySem.W.kitOne K (.ref C_NoTable) (.ref C_NoPlace) = some false)
    (kk_xi_NoPlace_BadLog : PySem.W.kitOne K (.ref C_BadLog) (.ref C_NoPlace) = some false)
    (kk_xi_NoPlace_NoProduct : PySem.W.kitOne K (.ref C_NoProduct) (.ref C_NoPlace) = some false)
    (kk_xi_NoPlace_NotKept : PySem.W.kitOne K (.ref C_NotKept) (.ref C_NoPlace) = some false)
    (kk_xi_NoPlace_TooMany : PySem.W.kitOne K (.ref C_TooMany) (.ref C_NoPlace) = some false)
    (kk_xi_NoPlace_BadWeight : PySem.W.kitOne K (.ref C_BadWeight) (.ref C_NoPlace) = some false)
    (kk_xi_NoPlace_NoPlace : PySem.W.kitOne K (.ref C_NoPlace) (.ref C_NoPlace) = some true)
    (kk_xi_NoPlace_BadDependence : PySem.W.kitOne K (.ref C_BadDependence) (.ref C_NoPlace) = some false)
    (kk_xi_NoPlace_BadColumns : PySem.W.kitOne K (.ref C_BadColumns) (.ref C_NoPlace) = some false)
    (kk_xi_NoProduct_MeanError : PySem.W.kitOne K (.ref C_MeanError) (.ref C_NoProduct) = some false)
    (kk_xi_NoProduct_BadText : PySem.W.kitOne K (.ref C_BadText) (.ref C_NoProduct) = some false)
    (kk_xi_NoProduct_BadLevel : PySem.W.kitOne K (.ref C_BadLevel) (.ref C_NoProduct) = some false)
    (kk_xi_NoProduct_BadRow : PySem.W.kitOne K (.ref C_BadRow) (.ref C_NoProduct) = some false)
    (kk_xi_NoProduct_BadSet : PySem.W.kitOne K (.ref C_BadSet) (.ref C_NoProduct) = some false)
    (kk_xi_NoProduct_BadNumber : PySem.W.kitOne K (.ref C_BadNumber) (.ref C_NoProduct) = some false)
    (kk_xi_NoProduct_NothingLeft : PySem.W.kitOne K (.ref C_NothingLeft) (.ref C_NoProduct) = some false)
    (kk_xi_NoProduct_NoTable : PySem.W.kitOne K (.ref C_NoTable) (.ref C_NoProduct) = some false)
    (kk_xi_NoProduct_BadLog : PySem.W.kitOne K (.ref C_BadLog) (.ref C_NoProduct) = some false)
    (kk_xi_NoProduct_NoProduct : PySem.W.kitOne K (.ref C_NoProduct) (.ref C_NoProduct) = some true)
    (kk_xi_NoProduct_NotKept : PySem.W.kitOne K (.ref C_NotKept) (.ref C_NoProduct) = some false)
    (kk_xi_NoProduct_TooMany : PySem.W.kitOne K (.ref C_TooMany) (.ref C_NoProduct) = some false)
    (kk_xi_NoProduct_BadWeight : PySem.W.kitOne K (.ref C_BadWeight) (.ref C_NoProduct) = some false)
    (kk_xi_NoProduct_NoPlace : PySem.W.kitOne K (.ref C_NoPlace) (.ref C_NoProduct) = some false)
    (kk_xi_NoProduct_BadDependence : PySem.W.kitOne K (.ref C_BadDependence) (.ref C_NoProduct) = some false)
    (kk_xi_NoProduct_BadColumns : PySem.W.kitOne K (.ref C_BadColumns) (.ref C_NoProduct) = some false)
    (kk_xi_NoTable_MeanError : PySem.W.kitOne K (.ref C_MeanError) (.ref C_NoTable) = some false)
    (kk_xi_NoTable_BadText : PySem.W.kitOne K (.ref C_BadText) (.ref C_NoTable) = some false)
    (kk_xi_NoTable_BadLevel : PySem.W.kitOne K (.ref C_BadLevel) (.ref C_NoTable) = some false)
    (kk_xi_NoTable_BadRow : PySem.W.kitOne K (.ref C_BadRow) (.ref C_NoTable) = some false)
    (kk_xi_NoTable_BadSet : PySem.W.kitOne K (.ref C_BadSet) (.ref C_NoTable) = some false)
    (kk_xi_NoTable_BadNumber : PySem.W.kitOne K (.ref C_BadNumber) (.ref C_NoTable) = some false)
    (kk_xi_NoTable_NothingLeft : PySem.W.kitOne K (.ref C_NothingLeft) (.ref C_NoTable) = some false)
    (kk_xi_NoTable_NoTable : PySem.W.kitOne K (.ref C_NoTable) (.ref C_NoTable) = some true)
    (kk_xi_NoTable_BadLog : PySem.W.kitOne K (.ref C_BadLog) (.ref C_NoTable) = some false)
    (kk_xi_NoTable_NoProduct : PySem.W.kitOne K (.ref C_NoProduct) (.ref C_NoTable) = some false)
    (kk_xi_NoTable_NotKept : PySem.W.kitOne K (.ref C_NotKept) (.ref C_NoTable) = some false)
    (kk_xi_NoTable_TooMany : PySem.W.kitOne K (.ref C_TooMany) (.ref C_NoTable) = some false)
    (kk_xi_NoTable_BadWeight : PySem.W.kitOne K (.ref C_BadWeight) (.ref C_NoTable) = some false)
    (kk_xi_NoTable_NoPlace : PySem.W.kitOne K (.ref C_NoPlace) (.ref C_NoTable) = some false)
    (kk_xi_NoTable_BadDependence : PySem.W.kitOne K (.ref C_BadDependence) (.ref C_NoTable) = some false)
    (kk_xi_NoTable_BadColumns : PySem.W.kitOne K (.ref C_BadColumns) (.ref C_NoTable) = some false)
    (kk_xi_NotKept_MeanError : PySem.W.kitOne K (.ref C_MeanError) (.ref C_NotKept) = some false)
    (kk_xi_NotKept_BadText : PySem.W.kitOne K (.ref C_BadText) (.ref C_NotKept) = some false)
    (kk_xi_NotKept_BadLevel : PySem.W.kitOne K (.ref C_BadLevel) (.ref C_NotKept) = some false)
    (kk_xi_NotKept_BadRow : PySem.W.kitOne K (.ref C_BadRow) (.ref C_NotKept) = some false)
    (kk_xi_NotKept_BadSet : PySem.W.kitOne K (.ref C_BadSet) (.ref C_NotKept) = some false)
    (kk_xi_NotKept_BadNumber : PySem.W.kitOne K (.ref C_BadNumber) (.ref C_NotKept) = some false)
    (kk_xi_NotKept_NothingLeft : PySem.W.kitOne K (.ref C_NothingLeft) (.ref C_NotKept) = some false)
    (kk_xi_NotKept_NoTable : PySem.W.kitOne K (.ref C_NoTable) (.ref C_NotKept) = some false)
    (kk_xi_NotKept_BadLog : PySem.W.kitOne K (.ref C_BadLog) (.ref C_NotKept) = some false)
    (kk_xi_NotKept_NoProduct : PySem.W.kitOne K (.ref C_NoProduct) (.ref C_NotKept) = some false)
    (kk_xi_NotKept_NotKept : PySem.W.kitOne K (.ref C_NotKept) (.ref C_NotKept) = some true)
    (kk_xi_NotKept_TooMany : PySem.W.kitOne K (.ref C_TooMany) (.ref C_NotKept) = some false)
    (kk_xi_NotKept_BadWeight : PySem.W.kitOne K (.ref C_BadWeight) (.ref C_NotKept) = some false)
    (kk_xi_NotKept_NoPlace : PySem.W.kitOne K (.ref C_NoPlace) (.ref C_NotKept) = some false)
    (kk_xi_NotKept_BadDependence : PySem.W.kitOne K (.ref C_BadDependence) (.ref C_NotKept) = some false)
    (kk_xi_NotKept_BadColumns : PySem.W.kitOne K (.ref C_BadColumns) (.ref C_NotKept) = some false)
    (kk_xi_NothingLeft_MeanError : PySem.W.kitOne K (.ref C_MeanError) (.ref C_NothingLeft) = some false)
    (kk_xi_NothingLeft_BadText : PySem.W.kitOne K (.ref C_BadText) (.ref C_NothingLeft) = some false)
    (kk_xi_NothingLeft_BadLevel : PySem.W.kitOne K (.ref C_BadLevel) (.ref C_NothingLeft) = some false)
    (kk_xi_NothingLeft_BadRow : PySem.W.kitOne K (.ref C_BadRow) (.ref C_NothingLeft) = some false)
    (kk_xi_NothingLeft_BadSet : PySem.W.kitOne K (.ref C_BadSet) (.ref C_NothingLeft) = some false)
    (kk_xi_NothingLeft_BadNumber : PySem.W.kitOne K (.ref C_BadNumber) (.ref C_NothingLeft) = some false)
    (kk_xi_NothingLeft_NothingLeft : PySem.W.kitOne K (.ref C_NothingLeft) (.ref C_NothingLeft) = some true)
    (kk_xi_NothingLeft_NoTable : PySem.W.kitOne K (.ref C_NoTable) (.ref C_NothingLeft) = some false)
    (kk_xi_NothingLeft_BadLog : PySem.W.kitOne K (.ref C_BadLog) (.ref C_NothingLeft) = some false)
    (kk_xi_NothingLeft_NoProduct : PySem.W.kitOne K (.ref C_NoProduct) (.ref C_NothingLeft) = some false)
    (kk_xi_NothingLeft_NotKept : PySem.W.kitOne K (.ref C_NotKept) (.ref C_NothingLeft) = some false)
    (kk_xi_NothingLeft_TooMany : PySem.W.kitOne K (.ref C_TooMany) (.ref C_NothingLeft) = some false)
    (kk_xi_NothingLeft_BadWeight : PySem.W.kitOne K (.ref C_BadWeight) (.ref C_NothingLeft) = some false)
    (kk_xi_NothingLeft_NoPlace : PySem.W.kitOne K (.ref C_NoPlace) (.ref C_NothingLeft) = some false)
    (kk_xi_NothingLeft_BadDependence : PySem.W.kitOne K (.ref C_BadDependence) (.ref C_NothingLeft) = some false)
    (kk_xi_NothingLeft_BadColumns : PySem.W.kitOne K (.ref C_BadColumns) (.ref C_NothingLeft) = some false)
    (kk_xi_TooMany_MeanError : PySem.W.kitOne K (.ref C_MeanError) (.ref C_TooMany) = some false)
    (kk_xi_TooMany_BadText : PySem.W.kitOne K (.ref C_BadText) (.ref C_TooMany) = some false)
    (kk_xi_TooMany_BadLevel : PySem.W.kitOne K (.ref C_BadLevel) (.ref C_TooMany) = some false)
    (kk_xi_TooMany_BadRow : PySem.W.kitOne K (.ref C_BadRow) (.ref C_TooMany) = some false)
    (kk_xi_TooMany_BadSet : PySem.W.kitOne K (.ref C_BadSet) (.ref C_TooMany) = some false)
    (kk_xi_TooMany_BadNumber : PySem.W.kitOne K (.ref C_BadNumber) (.ref C_TooMany) = some false)
    (kk_xi_TooMany_NothingLeft : PySem.W.kitOne K (.ref C_NothingLeft) (.ref C_TooMany) = some false)
    (kk_xi_TooMany_NoTable : PySem.W.kitOne K (.ref C_NoTable) (.ref C_TooMany) = some false)
    (kk_xi_TooMany_BadLog : PySem.W.kitOne K (.ref C_BadLog) (.ref C_TooMany) = some false)
    (kk_xi_TooMany_NoProduct : PySem.W.kitOne K (.ref C_NoProduct) (.ref C_TooMany) = some false)
    (kk_xi_TooMany_NotKept : PySem.W.kitOne K (.ref C_NotKept) (.ref C_TooMany) = some false)
    (kk_xi_TooMany_TooMany : PySem.W.kitOne K (.ref C_TooMany) (.ref C_TooMany) = some true)
    (kk_xi_TooMany_BadWeight : PySem.W.kitOne K (.ref C_BadWeight) (.ref C_TooMany) = some false)
    (kk_xi_TooMany_NoPlace : PySem.W.kitOne K (.ref C_NoPlace) (.ref C_TooMany) = some false)
    (kk_xi_TooMany_BadDependence : PySem.W.kitOne K (.ref C_BadDependence) (.ref C_TooMany) = some false)
    (kk_xi_TooMany_BadColumns : PySem.W.kitOne K (.ref C_BadColumns) (.ref C_TooMany) = some false)
    (kk_xi_ValueError_MeanError : PySem.W.kitOne K (.ref C_MeanError) (.type "ValueError") = some true)
    (kk_xi_ValueError_BadText : PySem.W.kitOne K (.ref C_BadText) (.type "ValueError") = some true)
    (kk_xi_ValueError_BadLevel : PySem.W.kitOne K (.ref C_BadLevel) (.type "ValueError") = some true)
    (kk_xi_ValueError_BadRow : PySem.W.kitOne K (.ref C_BadRow) (.type "ValueError") = some true)
    (kk_xi_ValueError_BadSet : PySem.W.kitOne K (.ref C_BadSet) (.type "ValueError") = some true)
    (kk_xi_ValueError_BadNumber : PySem.W.kitOne K (.ref C_BadNumber) (.type "ValueError") = some true)
    (kk_xi_ValueError_NothingLeft : PySem.W.kitOne K (.ref C_NothingLeft) (.type "ValueError") = some true)
    (kk_xi_ValueError_NoTable : PySem.W.kitOne K (.ref C_NoTable) (.type "ValueError") = some true)
    (kk_xi_ValueError_BadLog : PySem.W.kitOne K (.ref C_BadLog) (.type "ValueError") = some true)
    (kk_xi_ValueError_NoProduct : PySem.W.kitOne K (.ref C_NoProduct) (.type "ValueError") = some true)
    (kk_xi_ValueError_NotKept : PySem.W.kitOne K (.ref C_NotKept) (.type "ValueError") = some true)
    (kk_xi_ValueError_TooMany : PySem.W.kitOne K (.ref C_TooMany) (.type "ValueError") = some true)
    (kk_xi_ValueError_BadWeight : PySem.W.kitOne K (.ref C_BadWeight) (.type "ValueError") = some true)
    (kk_xi_ValueError_NoPlace : PySem.W.kitOne K (.ref C_NoPlace) (.type "ValueError") = some true)
    (kk_xi_ValueError_BadDependence : PySem.W.kitOne K (.ref C_BadDependence) (.type "ValueError") = some true)
    (kk_xi_ValueError_BadColumns : PySem.W.kitOne K (.ref C_BadColumns) (.type "ValueError") = some true)
    (hn0 : PySem.W.specialIn K (.builtin "object.__class__") "__get__" = some (some (.builtin "getset_descriptor.__get__")))
    (ht0 : PySem.W.takesIn K (.builtin "object.__class__") = some true)
    (ki_MeanError_NoneType : PySem.W.kitOne K (.type "NoneType") (.ref C_MeanError) = some false)
    (ki_MeanError_bool : PySem.W.kitOne K (.type "bool") (.ref C_MeanError) = some false)
    (ki_MeanError_int : PySem.W.kitOne K (.type "int") (.ref C_MeanError) = some false)
    (ki_MeanError_str : PySem.W.kitOne K (.type "str") (.ref C_MeanError) = some false)
    (ki_MeanError_tuple : PySem.W.kitOne K (.type "tuple") (.ref C_MeanError) = some false)
    (ki_MeanError_list : PySem.W.kitOne K (.type "list") (.ref C_MeanError) = some false)
    (ki_MeanError_dict : PySem.W.kitOne K (.type "dict") (.ref C_MeanError) = some false)
    (ki_NothingLeft_NoneType : PySem.W.kitOne K (.type "NoneType") (.ref C_NothingLeft) = some false)
    (ki_NothingLeft_bool : PySem.W.kitOne K (.type "bool") (.ref C_NothingLeft) = some false)
    (ki_NothingLeft_int : PySem.W.kitOne K (.type "int") (.ref C_NothingLeft) = some false)
    (ki_NothingLeft_str : PySem.W.kitOne K (.type "str") (.ref C_NothingLeft) = some false)
    (ki_NothingLeft_tuple : PySem.W.kitOne K (.type "tuple") (.ref C_NothingLeft) = some false)
    (ki_NothingLeft_list : PySem.W.kitOne K (.type "list") (.ref C_NothingLeft) = some false)
    (ki_NothingLeft_dict : PySem.W.kitOne K (.type "dict") (.ref C_NothingLeft) = some false)
    (ki_NoTable_NoneType : PySem.W.kitOne K (.type "NoneType") (.ref C_NoTable) = some false)
    (ki_NoTable_bool : PySem.W.kitOne K (.type "bool") (.ref C_NoTable) = some false)
    (ki_NoTable_int : PySem.W.kitOne K (.type "int") (.ref C_NoTable) = some false)
    (ki_NoTable_str : PySem.W.kitOne K (.type "str") (.ref C_NoTable) = some false)
    (ki_NoTable_tuple : PySem.W.kitOne K (.type "tuple") (.ref C_NoTable) = some false)
    (ki_NoTable_list : PySem.W.kitOne K (.type "list") (.ref C_NoTable) = some false)
    (ki_NoTable_dict : PySem.W.kitOne K (.type "dict") (.ref C_NoTable) = some false)
    (ki_BadText_NoneType : PySem.W.kitOne K (.type "NoneType") (.ref C_BadText) = some false)
    (ki_BadText_bool : PySem.W.kitOne K (.type "bool") (.ref C_BadText) = some false)
    (ki_BadText_int : PySem.W.kitOne K (.type "int") (.ref C_BadText) = some false)
    (ki_BadText_str : PySem.W.kitOne K (.type "str") (.ref C_BadText) = some false)
    (ki_BadText_tuple : PySem.W.kitOne K (.type "tuple") (.ref C_BadText) = some false)
    (ki_BadText_list : PySem.W.kitOne K (.type "list") (.ref C_BadText) = some false)
    (ki_BadText_dict : PySem.W.kitOne K (.type "dict") (.ref C_BadText) = some false)
    (ki_BadLog_NoneType : PySem.W.kitOne K (.type "NoneType") (.ref C_BadLog) = some false)
    (ki_BadLog_bool : PySem.W.kitOne K (.type "bool") (.ref C_BadLog) = some false)
    (ki_BadLog_int : PySem.W.kitOne K (.type "int") (.ref C_BadLog) = some false)
    (ki_BadLog_str : PySem.W.kitOne K (.type "str") (.ref C_BadLog) = some false)
    (ki_BadLog_tuple : PySem.W.kitOne K (.type "tuple") (.ref C_BadLog) = some false)
    (ki_BadLog_list : PySem.W.kitOne K (.type "list") (.ref C_BadLog) = some false)
    (ki_BadLog_dict : PySem.W.kitOne K (.type "dict") (.ref C_BadLog) = some false)
    (ki_NoProduct_NoneType : PySem.W.kitOne K (.type "NoneType") (.ref C_NoProduct) = some false)
    (ki_NoProduct_bool : PySem.W.kitOne K (.type "bool") (.ref C_NoProduct) = some false)
    (ki_NoProduct_int : PySem.W.kitOne K (.type "int") (.ref C_NoProduct) = some false)
    (ki_NoProduct_str : PySem.W.kitOne K (.type "str") (.ref C_NoProduct) = some false)
    (ki_NoProduct_tuple : PySem.W.kitOne K (.type "tuple") (.ref C_NoProduct) = some false)
    (ki_NoProduct_list : PySem.W.kitOne K (.type "list") (.ref C_NoProduct) = some false)
    (ki_NoProduct_dict : PySem.W.kitOne K (.type "dict") (.ref C_NoProduct) = some false)
    (ki_NotKept_NoneType : PySem.W.kitOne K (.type "NoneType") (.ref C_NotKept) = some false)
    (ki_NotKept_bool : PySem.W.kitOne K (.type "bool") (.ref C_NotKept) = some false)
    (ki_NotKept_int : PySem.W.kitOne K (.type "int") (.ref C_NotKept) = some false)
    (ki_NotKept_str : PySem.W.kitOne K (.type "str") (.ref C_NotKept) = some false)
    (ki_NotKept_tuple : PySem.W.kitOne K (.type "tuple") (.ref C_NotKept) = some false)
    (ki_NotKept_list : PySem.W.kitOne K (.type "list") (.ref C_NotKept) = some false)
    (ki_NotKept_dict : PySem.W.kitOne K (.type "dict") (.ref C_NotKept) = some false)
    (ki_TooMany_NoneType : PySem.W.kitOne K (.type "NoneType") (.ref C_TooMany) = some false)
    (ki_TooMany_bool : PySem.W.kitOne K (.type "bool") (.ref C_TooMany) = some false)
    (ki_TooMany_int : PySem.W.kitOne K (.type "int") (.ref C_TooMany) = some false)
    (ki_TooMany_str : PySem.W.kitOne K (.type "str") (.ref C_TooMany) = some false)
    (ki_TooMany_tuple : PySem.W.kitOne K (.type "tuple") (.ref C_TooMany) = some false)
    (ki_TooMany_list : PySem.W.kitOne K (.type "list") (.ref C_TooMany) = some false)
    (ki_TooMany_dict : PySem.W.kitOne K (.type "dict") (.ref C_TooMany) = some false)
    (ki_BadLevel_NoneType : PySem.W.kitOne K (.type "NoneType") (.ref C_BadLevel) = some false)
    (ki_BadLevel_bool : PySem.W.kitOne K (.type "bool") (.ref C_BadLevel) = some false)
    (ki_BadLevel_int : PySem.W.kitOne K (.type "int") (.ref C_BadLevel) = some false)
    (ki_BadLevel_str : PySem.W.kitOne K (.type "str") (.ref C_BadLevel) = some false)
    (ki_BadLevel_tuple : PySem.W.kitOne K (.type "tuple") (.ref C_BadLevel) = some false)
    (ki_BadLevel_list : PySem.W.kitOne K (.type "list") (.ref C_BadLevel) = some false)
    (ki_BadLevel_dict : PySem.W.kitOne K (.type "dict") (.ref C_BadLevel) = some false)
    (ki_BadWeight_NoneType : PySem.W.kitOne K (.type "NoneType") (.ref C_BadWeight) = some false)
    (ki_BadWeight_bool : PySem.W.kitOne K (.type "bool") (.ref C_BadWeight) = some false)
    (ki_BadWeight_int : PySem.W.kitOne K (.type "int") (.ref C_BadWeight) = some false)
    (ki_BadWeight_str : PySem.W.kitOne K (.type "str") (.ref C_BadWeight) = some false)
    (ki_BadWeight_tuple : PySem.W.kitOne K (.type "tuple") (.ref C_BadWeight) = some false)
    (ki_BadWeight_list : PySem.W.kitOne K (.type "list") (.ref C_BadWeight) = some false)
    (ki_BadWeight_dict : PySem.W.kitOne K (.type "dict") (.ref C_BadWeight) = some false)
    (ki_NoPlace_NoneType : PySem.W.kitOne K (.type "NoneType") (.ref C_NoPlace) = some false)
    (ki_NoPlace_bool : PySem.W.kitOne K (.type "bool") (.ref C_NoPlace) = some false)
    (ki_NoPlace_int : PySem.W.kitOne K (.type "int") (.ref C_NoPlace) = some false)
    (ki_NoPlace_str : PySem.W.kitOne K (.type "str") (.ref C_NoPlace) = some false)
    (ki_NoPlace_tuple : PySem.W.kitOne K (.type "tuple") (.ref C_NoPlace) = some false)
    (ki_NoPlace_list : PySem.W.kitOne K (.type "list") (.ref C_NoPlace) = some false)
    (ki_NoPlace_dict : PySem.W.kitOne K (.type "dict") (.ref C_NoPlace) = some false)
    (ki_BadRow_NoneType : PySem.W.kitOne K (.type "NoneType") (.ref C_BadRow) = some false)
    (ki_BadRow_bool : PySem.W.kitOne K (.type "bool") (.ref C_BadRow) = some false)
    (ki_BadRow_int : PySem.W.kitOne K (.type "int") (.ref C_BadRow) = some false)
    (ki_BadRow_str : PySem.W.kitOne K (.type "str") (.ref C_BadRow) = some false)
    (ki_BadRow_tuple : PySem.W.kitOne K (.type "tuple") (.ref C_BadRow) = some false)
    (ki_BadRow_list : PySem.W.kitOne K (.type "list") (.ref C_BadRow) = some false)
    (ki_BadRow_dict : PySem.W.kitOne K (.type "dict") (.ref C_BadRow) = some false)
    (ki_BadDependence_NoneType : PySem.W.kitOne K (.type "NoneType") (.ref C_BadDependence) = some false)
    (ki_BadDependence_bool : PySem.W.kitOne K (.type "bool") (.ref C_BadDependence) = some false)
    (ki_BadDependence_int : PySem.W.kitOne K (.type "int") (.ref C_BadDependence) = some false)
    (ki_BadDependence_str : PySem.W.kitOne K (.type "str") (.ref C_BadDependence) = some false)
    (ki_BadDependence_tuple : PySem.W.kitOne K (.type "tuple") (.ref C_BadDependence) = some false)
    (ki_BadDependence_list : PySem.W.kitOne K (.type "list") (.ref C_BadDependence) = some false)
    (ki_BadDependence_dict : PySem.W.kitOne K (.type "dict") (.ref C_BadDependence) = some false)
    (ki_BadSet_NoneType : PySem.W.kitOne K (.type "NoneType") (.ref C_BadSet) = some false)
    (ki_BadSet_bool : PySem.W.kitOne K (.type "bool") (.ref C_BadSet) = some false)
    (ki_BadSet_int : PySem.W.kitOne K (.type "int") (.ref C_BadSet) = some false)
    (ki_BadSet_str : PySem.W.kitOne K (.type "str") (.ref C_BadSet) = some false)
    (ki_BadSet_tuple : PySem.W.kitOne K (.type "tuple") (.ref C_BadSet) = some false)
    (ki_BadSet_list : PySem.W.kitOne K (.type "list") (.ref C_BadSet) = some false)
    (ki_BadSet_dict : PySem.W.kitOne K (.type "dict") (.ref C_BadSet) = some false)
    (ki_BadColumns_NoneType : PySem.W.kitOne K (.type "NoneType") (.ref C_BadColumns) = some false)
    (ki_BadColumns_bool : PySem.W.kitOne K (.type "bool") (.ref C_BadColumns) = some false)
    (ki_BadColumns_int : PySem.W.kitOne K (.type "int") (.ref C_BadColumns) = some false)
    (ki_BadColumns_str : PySem.W.kitOne K (.type "str") (.ref C_BadColumns) = some false)
    (ki_BadColumns_tuple : PySem.W.kitOne K (.type "tuple") (.ref C_BadColumns) = some false)
    (ki_BadColumns_list : PySem.W.kitOne K (.type "list") (.ref C_BadColumns) = some false)
    (ki_BadColumns_dict : PySem.W.kitOne K (.type "dict") (.ref C_BadColumns) = some false)
    (ki_BadNumber_NoneType : PySem.W.kitOne K (.type "NoneType") (.ref C_BadNumber) = some false)
    (ki_BadNumber_bool : PySem.W.kitOne K (.type "bool") (.ref C_BadNumber) = some false)
    (ki_BadNumber_int : PySem.W.kitOne K (.type "int") (.ref C_BadNumber) = some false)
    (ki_BadNumber_str : PySem.W.kitOne K (.type "str") (.ref C_BadNumber) = some false)
    (ki_BadNumber_tuple : PySem.W.kitOne K (.type "tuple") (.ref C_BadNumber) = some false)
    (ki_BadNumber_list : PySem.W.kitOne K (.type "list") (.ref C_BadNumber) = some false)
    (ki_BadNumber_dict : PySem.W.kitOne K (.type "dict") (.ref C_BadNumber) = some false)
    (z_ValueError : PySem.W.nsIn K mainGlobals "ValueError" = some none)
    (z_abs : PySem.W.nsIn K mainGlobals "abs" = some none)
    (z_enumerate : PySem.W.nsIn K mainGlobals "enumerate" = some none)
    (z_int : PySem.W.nsIn K mainGlobals "int" = some none)
    (z_isinstance : PySem.W.nsIn K mainGlobals "isinstance" = some none)
    (z_len : PySem.W.nsIn K mainGlobals "len" = some none)
    (z_min : PySem.W.nsIn K mainGlobals "min" = some none)
    (z_range : PySem.W.nsIn K mainGlobals "range" = some none)
    (z_repr : PySem.W.nsIn K mainGlobals "repr" = some none)
    (a_law_begun : PySem.W.nsIn K mainGlobals "_law_begun" = some (some (.ref f_law_begun)))
    (l_law_begun : K.lookup f_law_begun = some ⟨oc_law_begun, od_law_begun, .func (PySem.W.fnOf "_law_begun" "_law_begun" (defArgs s_law_begun) (defBody s_law_begun) (defScope s_law_begun) .none kV_law_begun dc_law_begun pm_law_begun an_law_begun cd_law_begun ct_law_begun), sl_law_begun⟩)
    (c_law_begun : PySem.W.codeIn K cd_law_begun "_law_begun" = true)
    (k_law_begun : PySem.W.keepIn K (.ref f_law_begun) = true)
    (a_law_kinds : PySem.W.nsIn K mainGlobals "_law_kinds" = some (some (.ref f_law_kinds)))
    (l_law_kinds : K.lookup f_law_kinds = some ⟨oc_law_kinds, od_law_kinds, .func (PySem.W.fnOf "_law_kinds" "_law_kinds" (defArgs s_law_kinds) (defBody s_law_kinds) (defScope s_law_kinds) .none kV_law_kinds dc_law_kinds pm_law_kinds an_law_kinds cd_law_kinds ct_law_kinds), sl_law_kinds⟩)
    (c_law_kinds : PySem.W.codeIn K cd_law_kinds "_law_kinds" = true)
    (k_law_kinds : PySem.W.keepIn K (.ref f_law_kinds) = true)
    (a_law_mixed : PySem.W.nsIn K mainGlobals "_law_mixed" = some (some (.ref f_law_mixed)))
    (l_law_mixed : K.lookup f_law_mixed = some ⟨oc_law_mixed, od_law_mixed, .func (PySem.W.fnOf "_law_mixed" "_law_mixed" (defArgs s_law_mixed) (defBody s_law_mixed) (defScope s_law_mixed) .none kV_law_mixed dc_law_mixed pm_law_mixed an_law_mixed cd_law_mixed ct_law_mixed), sl_law_mixed⟩)
    (c_law_mixed : PySem.W.codeIn K cd_law_mixed "_law_mixed" = true)
    (k_law_mixed : PySem.W.keepIn K (.ref f_law_mixed) = true)
    (a_law_take : PySem.W.nsIn K mainGlobals "_law_take" = some (some (.ref f_law_take)))
    (l_law_take : K.lookup f_law_take = some ⟨oc_law_take, od_law_take, .func (PySem.W.fnOf "_law_take" "_law_take" (defArgs s_law_take) (defBody s_law_take) (defScope s_law_take) .none kV_law_take dc_law_take pm_law_take an_law_take cd_law_take ct_law_take), sl_law_take⟩)
    (c_law_take : PySem.W.codeIn K cd_law_take "_law_take" = true)
    (k_law_take : PySem.W.keepIn K (.ref f_law_take) = true)
    (a_law_pick : PySem.W.nsIn K mainGlobals "_law_pick" = some (some (.ref f_law_pick)))
    (l_law_pick : K.lookup f_law_pick = some ⟨oc_law_pick, od_law_pick, .func (PySem.W.fnOf "_law_pick" "_law_pick" (defArgs s_law_pick) (defBody s_law_pick) (defScope s_law_pick) .none kV_law_pick dc_law_pick pm_law_pick an_law_pick cd_law_pick ct_law_pick), sl_law_pick⟩)
    (c_law_pick : PySem.W.codeIn K cd_law_pick "_law_pick" = true)
    (k_law_pick : PySem.W.keepIn K (.ref f_law_pick) = true)
    (a_law_odd : PySem.W.nsIn K mainGlobals "_law_odd" = some (some (.ref f_law_odd)))
    (l_law_odd : K.lookup f_law_odd = some ⟨oc_law_odd, od_law_odd, .func (PySem.W.fnOf "_law_odd" "_law_odd" (defArgs s_law_odd) (defBody s_law_odd) (defScope s_law_odd) .none kV_law_odd dc_law_odd pm_law_odd an_law_odd cd_law_odd ct_law_odd), sl_law_odd⟩)
    (c_law_odd : PySem.W.codeIn K cd_law_odd "_law_odd" = true)
    (k_law_odd : PySem.W.keepIn K (.ref f_law_odd) = true)
    (a_law : PySem.W.nsIn K mainGlobals "law" = some (some (.ref f_law)))
    (l_law : K.lookup f_law = some ⟨oc_law, od_law, .func (PySem.W.fnOf "law" "law" (defArgs s_law) (defBody s_law) (defScope s_law) .none kV_law dc_law pm_law an_law cd_law ct_law), sl_law⟩)
    (c_law : PySem.W.codeIn K cd_law "law" = true)
    (k_law : PySem.W.keepIn K (.ref f_law) = true)
    (hp : ∀ ns : List Int, ns.length ≤ 63 → (∀ z ∈ ns, Builtin.Int.intBits z ≤ 1048576) → KL.law ns = true) : LG.LawS l w K 6 63 "_law_script" mg fa h := by
  have e := hfa.symm.trans (PySem.W.mg_of X G0 a_law)
  cases e
  letI : Tabl := { T := [] }
  have mC_MeanError : mg "MeanError" = some (.ref C_MeanError) := PySem.W.mg_of X G0 aC_MeanError
  have mC_BadNumber : mg "BadNumber" = some (.ref C_BadNumber) := PySem.W.mg_of X G0 aC_BadNumber
  have mC_BadColumns : mg "BadColumns" = some (.ref C_BadColumns) := PySem.W.mg_of X G0 aC_BadColumns
  have mC_BadSet : mg "BadSet" = some (.ref C_BadSet) := PySem.W.mg_of X G0 aC_BadSet
  have mC_BadDependence : mg "BadDependence" = some (.ref C_BadDependence) := PySem.W.mg_of X G0 aC_BadDependence
  have mC_BadRow : mg "BadRow" = some (.ref C_BadRow) := PySem.W.mg_of X G0 aC_BadRow
  have mC_NoPlace : mg "NoPlace" = some (.ref C_NoPlace) := PySem.W.mg_of X G0 aC_NoPlace
  have mC_BadWeight : mg "BadWeight" = some (.ref C_BadWeight) := PySem.W.mg_of X G0 aC_BadWeight
  have mC_BadLevel : mg "BadLevel" = some (.ref C_BadLevel) := PySem.W.mg_of X G0 aC_BadLevel
  have mC_TooMany : mg "TooMany" = some (.ref C_TooMany) := PySem.W.mg_of X G0 aC_TooMany
  have mC_NotKept : mg "NotKept" = some (.ref C_NotKept) := PySem.W.mg_of X G0 aC_NotKept
  have mC_NoProduct : mg "NoProduct" = some (.ref C_NoProduct) := PySem.W.mg_of X G0 aC_NoProduct
  have mC_BadLog : mg "BadLog" = some (.ref C_BadLog) := PySem.W.mg_of X G0 aC_BadLog
  have mC_BadText : mg "BadText" = some (.ref C_BadText) := PySem.W.mg_of X G0 aC_BadText
  have mC_NoTable : mg "NoTable" = some (.ref C_NoTable) := PySem.W.mg_of X G0 aC_NoTable
  have mC_NothingLeft : mg "NothingLeft" = some (.ref C_NothingLeft) := PySem.W.mg_of X G0 aC_NothingLeft
  have Xt_MeanError : XTy K C_MeanError := ⟨xga_MeanError, xgt_MeanError, xex_MeanError, xhd_MeanError, xha_MeanError, hn0, ht0, xmr_MeanError⟩
  have Xt_BadText : XTy K C_BadText := ⟨xga_BadText, xgt_BadText, xex_BadText, xhd_BadText, xha_BadText, hn0, ht0, xmr_BadText⟩
  have Xt_BadLevel : XTy K C_BadLevel := ⟨xga_BadLevel, xgt_BadLevel, xex_BadLevel, xhd_BadLevel, xha_BadLevel, hn0, ht0, xmr_BadLevel⟩
  have Xt_BadRow : XTy K C_BadRow := ⟨xga_BadRow, xgt_BadRow, xex_BadRow, xhd_BadRow, xha_BadRow, hn0, ht0, xmr_BadRow⟩
  have Xt_BadSet : XTy K C_BadSet := ⟨xga_BadSet, xgt_BadSet, xex_BadSet, xhd_BadSet, xha_BadSet, hn0, ht0, xmr_BadSet⟩
  have Xt_BadNumber : XTy K C_BadNumber := ⟨xga_BadNumber, xgt_BadNumber, xex_BadNumber, xhd_BadNumber, xha_BadNumber, hn0, ht0, xmr_BadNumber⟩
  have Xt_NothingLeft : XTy K C_NothingLeft := ⟨xga_NothingLeft, xgt_NothingLeft, xex_NothingLeft, xhd_NothingLeft, xha_NothingLeft, hn0, ht0, xmr_NothingLeft⟩
  have Xt_NoTable : XTy K C_NoTable := ⟨xga_NoTable, xgt_NoTable, xex_NoTable, xhd_NoTable, xha_NoTable, hn0, ht0, xmr_NoTable⟩
  have Xt_BadLog : XTy K C_BadLog := ⟨xga_BadLog, xgt_BadLog, xex_BadLog, xhd_BadLog, xha_BadLog, hn0, ht0, xmr_BadLog⟩
  have Xt_NoProduct : XTy K C_NoProduct := ⟨xga_NoProduct, xgt_NoProduct, xex_NoProduct, xhd_NoProduct, xha_NoProduct, hn0, ht0, xmr_NoProduct⟩
  have Xt_NotKept : XTy K C_NotKept := ⟨xga_NotKept, xgt_NotKept, xex_NotKept, xhd_NotKept, xha_NotKept, hn0, ht0, xmr_NotKept⟩
  have Xt_TooMany : XTy K C_TooMany := ⟨xga_TooMany, xgt_TooMany, xex_TooMany, xhd_TooMany, xha_TooMany, hn0, ht0, xmr_TooMany⟩
  have Xt_BadWeight : XTy K C_BadWeight := ⟨xga_BadWeight, xgt_BadWeight, xex_BadWeight, xhd_BadWeight, xha_BadWeight, hn0, ht0, xmr_BadWeight⟩
  have Xt_NoPlace : XTy K C_NoPlace := ⟨xga_NoPlace, xgt_NoPlace, xex_NoPlace, xhd_NoPlace, xha_NoPlace, hn0, ht0, xmr_NoPlace⟩
  have Xt_BadDependence : XTy K C_BadDependence := ⟨xga_BadDependence, xgt_BadDependence, xex_BadDependence, xhd_BadDependence, xha_BadDependence, hn0, ht0, xmr_BadDependence⟩
  have Xt_BadColumns : XTy K C_BadColumns := ⟨xga_BadColumns, xgt_BadColumns, xex_BadColumns, xhd_BadColumns, xha_BadColumns, hn0, ht0, xmr_BadColumns⟩
  have G : Gt K mg := ⟨PySem.W.mg_none_of X G0 z_ValueError,
    PySem.W.mg_none_of X G0 z_abs,
    PySem.W.mg_none_of X G0 z_enumerate,
    PySem.W.mg_none_of X G0 z_int,
    PySem.W.mg_none_of X G0 z_isinstance,
    PySem.W.mg_none_of X G0 z_len,
    PySem.W.mg_none_of X G0 z_min,
    PySem.W.mg_none_of X G0 z_range,
    PySem.W.mg_none_of X G0 z_repr,
    ⟨fun T hT => kit_ty (kb_ValueError T hT), fun p hp => absurd hp (by simp [ic_ValueError])⟩,
    ⟨⟨C_MeanError, mC_MeanError, ⟨fun T hT => by
      simp only [List.mem_cons, List.not_mem_nil, or_false] at hT
      rcases hT with rfl | rfl | rfl | rfl | rfl | rfl | rfl
      · exact ki_MeanError_NoneType
      · exact ki_MeanError_bool
      · exact ki_MeanError_int
      · exact ki_MeanError_str
      · exact ki_MeanError_tuple
      · exact ki_MeanError_list
      · exact ki_MeanError_dict, fun p hp => absurd hp (by simp [ic_MeanError])⟩⟩⟩,
    ⟨⟨C_NothingLeft, mC_NothingLeft, ⟨fun T hT => by
      simp only [List.mem_cons, List.not_mem_nil, or_false] at hT
      rcases hT with rfl | rfl | rfl | rfl | rfl | rfl | rfl
      · exact ki_NothingLeft_NoneType
      · exact ki_NothingLeft_bool
      · exact ki_NothingLeft_int
      · exact ki_NothingLeft_str
      · exact ki_NothingLeft_tuple
      · exact ki_NothingLeft_list
      · exact ki_NothingLeft_dict, fun p hp => absurd hp (by simp [ic_NothingLeft])⟩⟩⟩,
    ⟨⟨C_NoTable, mC_NoTable, ⟨fun T hT => by
      simp only [List.mem_cons, List.not_mem_nil, or_false] at hT
      rcases hT with rfl | rfl | rfl | rfl | rfl | rfl | rfl
      · exact ki_NoTable_NoneType
      · exact ki_NoTable_bool
      · exact ki_NoTable_int
      · exact ki_NoTable_str
      · exact ki_NoTable_tuple
      · exact ki_NoTable_list
      · exact ki_NoTable_dict, fun p hp => absurd hp (by simp [ic_NoTable])⟩⟩⟩,
    ⟨⟨C_BadText, mC_BadText, ⟨fun T hT => by
      simp only [List.mem_cons, List.not_mem_nil, or_false] at hT
      rcases hT with rfl | rfl | rfl | rfl | rfl | rfl | rfl
      · exact ki_BadText_NoneType
      · exact ki_BadText_bool
      · exact ki_BadText_int
      · exact ki_BadText_str
      · exact ki_BadText_tuple
      · exact ki_BadText_list
      · exact ki_BadText_dict, fun p hp => absurd hp (by simp [ic_BadText])⟩⟩⟩,
    ⟨⟨C_BadLog, mC_BadLog, ⟨fun T hT => by
      simp only [List.mem_cons, List.not_mem_nil, or_false] at hT
      rcases hT with rfl | rfl | rfl | rfl | rfl | rfl | rfl
      · exact ki_BadLog_NoneType
      · exact ki_BadLog_bool
      · exact ki_BadLog_int
      · exact ki_BadLog_str
      · exact ki_BadLog_tuple
      · exact ki_BadLog_list
      · exact ki_BadLog_dict, fun p hp => absurd hp (by simp [ic_BadLog])⟩⟩⟩,
    ⟨⟨C_NoProduct, mC_NoProduct, ⟨fun T hT => by
      simp only [List.mem_cons, List.not_mem_nil, or_false] at hT
      rcases hT with rfl | rfl | rfl | rfl | rfl | rfl | rfl
      · exact ki_NoProduct_NoneType
      · exact ki_NoProduct_bool
      · exact ki_NoProduct_int
      · exact ki_NoProduct_str
      · exact ki_NoProduct_tuple
      · exact ki_NoProduct_list
      · exact ki_NoProduct_dict, fun p hp => absurd hp (by simp [ic_NoProduct])⟩⟩⟩,
    ⟨⟨C_NotKept, mC_NotKept, ⟨fun T hT => by
      simp only [List.mem_cons, List.not_mem_nil, or_false] at hT
      rcases hT with rfl | rfl | rfl | rfl | rfl | rfl | rfl
      · exact ki_NotKept_NoneType
      · exact ki_NotKept_bool
      · exact ki_NotKept_int
      · exact ki_NotKept_str
      · exact ki_NotKept_tuple
      · exact ki_NotKept_list
      · exact ki_NotKept_dict, fun p hp => absurd hp (by simp [ic_NotKept])⟩⟩⟩,
    ⟨⟨C_TooMany, mC_TooMany, ⟨fun T hT => by
      simp only [List.mem_cons, List.not_mem_nil, or_false] at hT
      rcases hT with rfl | rfl | rfl | rfl | rfl | rfl | rfl
      · exact ki_TooMany_NoneType
      · exact ki_TooMany_bool
      · exact ki_TooMany_int
      · exact ki_TooMany_str
      · exact ki_TooMany_tuple
      · exact ki_TooMany_list
      · exact ki_TooMany_dict, fun p hp => absurd hp (by simp [ic_TooMany])⟩⟩⟩,
    ⟨⟨C_BadLevel, mC_BadLevel, ⟨fun T hT => by
      simp only [List.mem_cons, List.not_mem_nil, or_false] at hT
      rcases hT with rfl | rfl | rfl | rfl | rfl | rfl | rfl
      · exact ki_BadLevel_NoneType
      · exact ki_BadLevel_bool
      · exact ki_BadLevel_int
      · exact ki_BadLevel_str
      · exact ki_BadLevel_tuple
      · exact ki_BadLevel_list
      · exact ki_BadLevel_dict, fun p hp => absurd hp (by simp [ic_BadLevel])⟩⟩⟩,
    ⟨⟨C_BadWeight, mC_BadWeight, ⟨fun T hT => by
      simp only [List.mem_cons, List.not_mem_nil, or_false] at hT
      rcases hT with rfl | rfl | rfl | rfl | rfl | rfl | rfl
      · exact ki_BadWeight_NoneType
      · exact ki_BadWeight_bool
      · exact ki_BadWeight_int
      · exact ki_BadWeight_str
      · exact ki_BadWeight_tuple
      · exact ki_BadWeight_list
      · exact ki_BadWeight_dict, fun p hp => absurd hp (by simp [ic_BadWeight])⟩⟩⟩,
    ⟨⟨C_NoPlace, mC_NoPlace, ⟨fun T hT => by
      simp only [List.mem_cons, List.not_mem_nil, or_false] at hT
      rcases hT with rfl | rfl | rfl | rfl | rfl | rfl | rfl
      · exact ki_NoPlace_NoneType
      · exact ki_NoPlace_bool
      · exact ki_NoPlace_int
      · exact ki_NoPlace_str
      · exact ki_NoPlace_tuple
      · exact ki_NoPlace_list
      · exact ki_NoPlace_dict, fun p hp => absurd hp (by simp [ic_NoPlace])⟩⟩⟩,
    ⟨⟨C_BadRow, mC_BadRow, ⟨fun T hT => by
      simp only [List.mem_cons, List.not_mem_nil, or_false] at hT
      rcases hT with rfl | rfl | rfl | rfl | rfl | rfl | rfl
      · exact ki_BadRow_NoneType
      · exact ki_BadRow_bool
      · exact ki_BadRow_int
      · exact ki_BadRow_str
      · exact ki_BadRow_tuple
      · exact ki_BadRow_list
      · exact ki_BadRow_dict, fun p hp => absurd hp (by simp [ic_BadRow])⟩⟩⟩,
    ⟨⟨C_BadDependence, mC_BadDependence, ⟨fun T hT => by
      simp only [List.mem_cons, List.not_mem_nil, or_false] at hT
      rcases hT with rfl | rfl | rfl | rfl | rfl | rfl | rfl
      · exact ki_BadDependence_NoneType
      · exact ki_BadDependence_bool
      · exact ki_BadDependence_int
      · exact ki_BadDependence_str
      · exact ki_BadDependence_tuple
      · exact ki_BadDependence_list
      · exact ki_BadDependence_dict, fun p hp => absurd hp (by simp [ic_BadDependence])⟩⟩⟩,
    ⟨⟨C_BadSet, mC_BadSet, ⟨fun T hT => by
      simp only [List.mem_cons, List.not_mem_nil, or_false] at hT
      rcases hT with rfl | rfl | rfl | rfl | rfl | rfl | rfl
      · exact ki_BadSet_NoneType
      · exact ki_BadSet_bool
      · exact ki_BadSet_int
      · exact ki_BadSet_str
      · exact ki_BadSet_tuple
      · exact ki_BadSet_list
      · exact ki_BadSet_dict, fun p hp => absurd hp (by simp [ic_BadSet])⟩⟩⟩,
    ⟨⟨C_BadColumns, mC_BadColumns, ⟨fun T hT => by
      simp only [List.mem_cons, List.not_mem_nil, or_false] at hT
      rcases hT with rfl | rfl | rfl | rfl | rfl | rfl | rfl
      · exact ki_BadColumns_NoneType
      · exact ki_BadColumns_bool
      · exact ki_BadColumns_int
      · exact ki_BadColumns_str
      · exact ki_BadColumns_tuple
      · exact ki_BadColumns_list
      · exact ki_BadColumns_dict, fun p hp => absurd hp (by simp [ic_BadColumns])⟩⟩⟩,
    ⟨⟨C_BadNumber, mC_BadNumber, ⟨fun T hT => by
      simp only [List.mem_cons, List.not_mem_nil, or_false] at hT
      rcases hT with rfl | rfl | rfl | rfl | rfl | rfl | rfl
      · exact ki_BadNumber_NoneType
      · exact ki_BadNumber_bool
      · exact ki_BadNumber_int
      · exact ki_BadNumber_str
      · exact ki_BadNumber_tuple
      · exact ki_BadNumber_list
      · exact ki_BadNumber_dict, fun p hp => absurd hp (by simp [ic_BadNumber])⟩⟩⟩,
    ⟨⟨C_BadColumns, mC_BadColumns, ⟨fun p hp => by
      simp only [xi_BadColumns, List.mem_cons, List.not_mem_nil, or_false] at hp
      rcases hp with rfl | rfl | rfl | rfl | rfl | rfl | rfl | rfl | rfl | rfl | rfl | rfl | rfl | rfl | rfl | rfl
      · exact ⟨C_MeanError, mC_MeanError, Xt_MeanError, kk_xi_BadColumns_MeanError⟩
      · exact ⟨C_BadText, mC_BadText, Xt_BadText, kk_xi_BadColumns_BadText⟩
      · exact ⟨C_BadLevel, mC_BadLevel, Xt_BadLevel, kk_xi_BadColumns_BadLevel⟩
      · exact ⟨C_BadRow, mC_BadRow, Xt_BadRow, kk_xi_BadColumns_BadRow⟩
      · exact ⟨C_BadSet, mC_BadSet, Xt_BadSet, kk_xi_BadColumns_BadSet⟩
      · exact ⟨C_BadNumber, mC_BadNumber, Xt_BadNumber, kk_xi_BadColumns_BadNumber⟩
      · exact ⟨C_NothingLeft, mC_NothingLeft, Xt_NothingLeft, kk_xi_BadColumns_NothingLeft⟩
      · exact ⟨C_NoTable, mC_NoTable, Xt_NoTable, kk_xi_BadColumns_NoTable⟩
      · exact ⟨C_BadLog, mC_BadLog, Xt_BadLog, kk_xi_BadColumns_BadLog⟩
      · exact ⟨C_NoProduct, mC_NoProduct, Xt_NoProduct, kk_xi_BadColumns_NoProduct⟩
      · exact ⟨C_NotKept, mC_NotKept, Xt_NotKept, kk_xi_BadColumns_NotKept⟩
      · exact ⟨C_TooMany, mC_TooMany, Xt_TooMany, kk_xi_BadColumns_TooMany⟩
      · exact ⟨C_BadWeight, mC_BadWeight, Xt_BadWeight, kk_xi_BadColumns_BadWeight⟩
      · exact ⟨C_NoPlace, mC_NoPlace, Xt_NoPlace, kk_xi_BadColumns_NoPlace⟩
      · exact ⟨C_BadDependence, mC_BadDependence, Xt_BadDependence, kk_xi_BadColumns_BadDependence⟩
      · exact ⟨C_BadColumns, mC_BadColumns, Xt_BadColumns, kk_xi_BadColumns_BadColumns⟩⟩⟩⟩,
    ⟨⟨C_BadDependence, mC_BadDependence, ⟨fun p hp => by
      simp only [xi_BadDependence, List.mem_cons, List.not_mem_nil, or_false] at hp
      rcases hp with rfl | rfl | rfl | rfl | rfl | rfl | rfl | rfl | rfl | rfl | rfl | rfl | rfl | rfl | rfl | rfl
      · exact ⟨C_MeanError, mC_MeanError, Xt_MeanError, kk_xi_BadDependence_MeanError⟩
      · exact ⟨C_BadText, mC_BadText, Xt_BadText, kk_xi_BadDependence_BadText⟩
      · exact ⟨C_BadLevel, mC_BadLevel, Xt_BadLevel, kk_xi_BadDependence_BadLevel⟩
      · exact ⟨C_BadRow, mC_BadRow, Xt_BadRow, kk_xi_BadDependence_BadRow⟩
      · exact ⟨C_BadSet, mC_BadSet, Xt_BadSet, kk_xi_BadDependence_BadSet⟩
      · exact ⟨C_BadNumber, mC_BadNumber, Xt_BadNumber, kk_xi_BadDependence_BadNumber⟩
      · exact ⟨C_NothingLeft, mC_NothingLeft, Xt_NothingLeft, kk_xi_BadDependence_NothingLeft⟩
      · exact ⟨C_NoTable, mC_NoTable, Xt_NoTable, kk_xi_BadDependence_NoTable⟩
      · exact ⟨C_BadLog, mC_BadLog, Xt_BadLog, kk_xi_BadDependence_BadLog⟩
      · exact ⟨C_NoProduct, mC_NoProduct, Xt_NoProduct, kk_xi_BadDependence_NoProduct⟩
      · exact ⟨C_NotKept, mC_NotKept, Xt_NotKept, kk_xi_BadDependence_NotKept⟩
      · exact ⟨C_TooMany, mC_TooMany, Xt_TooMany, kk_xi_BadDependence_TooMany⟩
      · exact ⟨C_BadWeight, mC_BadWeight, Xt_BadWeight, kk_xi_BadDependence_BadWeight⟩
      · exact ⟨C_NoPlace, mC_NoPlace, Xt_NoPlace, kk_xi_BadDependence_NoPlace⟩
      · exact ⟨C_BadDependence, mC_BadDependence, Xt_BadDependence, kk_xi_BadDependence_BadDependence⟩
      · exact ⟨C_BadColumns, mC_BadColumns, Xt_BadColumns, kk_xi_BadDependence_BadColumns⟩⟩⟩⟩,
    ⟨⟨C_BadLevel, mC_BadLevel, ⟨fun p hp => by
      simp only [xi_BadLevel, List.mem_cons, List.not_mem_nil, or_false] at hp
      rcases hp with rfl | rfl | rfl | rfl | rfl | rfl | rfl | rfl | rfl | rfl | rfl | rfl | rfl | rfl | rfl | rfl
      · exact ⟨C_MeanError, mC_MeanError, Xt_MeanError, kk_xi_BadLevel_MeanError⟩
      · exact ⟨C_BadText, mC_BadText, Xt_BadText, kk_xi_BadLevel_BadText⟩
      · exact ⟨C_BadLevel, mC_BadLevel, Xt_BadLevel, kk_xi_BadLevel_BadLevel⟩
      · exact ⟨C_BadRow, mC_BadRow, Xt_BadRow, kk_xi_BadLevel_BadRow⟩
      · exact ⟨C_BadSet, mC_BadSet, Xt_BadSet, kk_xi_BadLevel_BadSet⟩
      · exact ⟨C_BadNumber, mC_BadNumber, Xt_BadNumber, kk_xi_BadLevel_BadNumber⟩
      · exact ⟨C_NothingLeft, mC_NothingLeft, Xt_NothingLeft, kk_xi_BadLevel_NothingLeft⟩
      · exact ⟨C_NoTable, mC_NoTable, Xt_NoTable, kk_xi_BadLevel_NoTable⟩
      · exact ⟨C_BadLog, mC_BadLog, Xt_BadLog, kk_xi_BadLevel_BadLog⟩
      · exact ⟨C_NoProduct, mC_NoProduct, Xt_NoProduct, kk_xi_BadLevel_NoProduct⟩
      · exact ⟨C_NotKept, mC_NotKept, Xt_NotKept, kk_xi_BadLevel_NotKept⟩
      · exact ⟨C_TooMany, mC_TooMany, Xt_TooMany, kk_xi_BadLevel_TooMany⟩
      · exact ⟨C_BadWeight, mC_BadWeight, Xt_BadWeight, kk_xi_BadLevel_BadWeight⟩
      · exact ⟨C_NoPlace, mC_NoPlace, Xt_NoPlace, kk_xi_BadLevel_NoPlace⟩
      · exact ⟨C_BadDependence, mC_BadDependence, Xt_BadDependence, kk_xi_BadLevel_BadDependence⟩
      · exact ⟨C_BadColumns, mC_BadColumns, Xt_BadColumns, kk_xi_BadLevel_BadColumns⟩⟩⟩⟩,
    ⟨⟨C_BadLog, mC_BadLog, ⟨fun p hp => by
      simp only [xi_BadLog, List.mem_cons, List.not_mem_nil, or_false] at hp
      rcases hp with rfl | rfl | rfl | rfl | rfl | rfl | rfl | rfl | rfl | rfl | rfl | rfl | rfl | rfl | rfl | rfl
      · exact ⟨C_MeanError, mC_MeanError, Xt_MeanError, kk_xi_BadLog_MeanError⟩
      · exact ⟨C_BadText, mC_BadText, Xt_BadText, kk_xi_BadLog_BadText⟩
      · exact ⟨C_BadLevel, mC_BadLevel, Xt_BadLevel, kk_xi_BadLog_BadLevel⟩
      · exact ⟨C_BadRow, mC_BadRow, Xt_BadRow, kk_xi_BadLog_BadRow⟩
      · exact ⟨C_BadSet, mC_BadSet, Xt_BadSet, kk_xi_BadLog_BadSet⟩
      · exact ⟨C_BadNumber, mC_BadNumber, Xt_BadNumber, kk_xi_BadLog_BadNumber⟩
      · exact ⟨C_NothingLeft, mC_NothingLeft, Xt_NothingLeft, kk_xi_BadLog_NothingLeft⟩
      · exact ⟨C_NoTable, mC_NoTable, Xt_NoTable, kk_xi_BadLog_NoTable⟩
      · exact ⟨C_BadLog, mC_BadLog, Xt_BadLog, kk_xi_BadLog_BadLog⟩
      · exact ⟨C_NoProduct, mC_NoProduct, Xt_NoProduct, kk_xi_BadLog_NoProduct⟩
      · exact ⟨C_NotKept, mC_NotKept, Xt_NotKept, kk_xi_BadLog_NotKept⟩
      · exact ⟨C_TooMany, mC_TooMany, Xt_TooMany, kk_xi_BadLog_TooMany⟩
      · exact ⟨C_BadWeight, mC_BadWeight, Xt_BadWeight, kk_xi_BadLog_BadWeight⟩
      · exact ⟨C_NoPlace, mC_NoPlace, Xt_NoPlace, kk_xi_BadLog_NoPlace⟩
      · exact ⟨C_BadDependence, mC_BadDependence, Xt_BadDependence, kk_xi_BadLog_BadDependence⟩
      · exact ⟨C_BadColumns, mC_BadColumns, Xt_BadColumns, kk_xi_BadLog_BadColumns⟩⟩⟩⟩,
    ⟨⟨C_BadNumber, mC_BadNumber, ⟨fun p hp => by
      simp only [xi_BadNumber, List.mem_cons, List.not_mem_nil, or_false] at hp
      rcases hp with rfl | rfl | rfl | rfl | rfl | rfl | rfl | rfl | rfl | rfl | rfl | rfl | rfl | rfl | rfl | rfl
      · exact ⟨C_MeanError, mC_MeanError, Xt_MeanError, kk_xi_BadNumber_MeanError⟩
      · exact ⟨C_BadText, mC_BadText, Xt_BadText, kk_xi_BadNumber_BadText⟩
      · exact ⟨C_BadLevel, mC_BadLevel, Xt_BadLevel, kk_xi_BadNumber_BadLevel⟩
      · exact ⟨C_BadRow, mC_BadRow, Xt_BadRow, kk_xi_BadNumber_BadRow⟩
      · exact ⟨C_BadSet, mC_BadSet, Xt_BadSet, kk_xi_BadNumber_BadSet⟩
      · exact ⟨C_BadNumber, mC_BadNumber, Xt_BadNumber, kk_xi_BadNumber_BadNumber⟩
      · exact ⟨C_NothingLeft, mC_NothingLeft, Xt_NothingLeft, kk_xi_BadNumber_NothingLeft⟩
      · exact ⟨C_NoTable, mC_NoTable, Xt_NoTable, kk_xi_BadNumber_NoTable⟩
      · exact ⟨C_BadLog, mC_BadLog, Xt_BadLog, kk_xi_BadNumber_BadLog⟩
      · exact ⟨C_NoProduct, mC_NoProduct, Xt_NoProduct, kk_xi_BadNumber_NoProduct⟩
      · exact ⟨C_NotKept, mC_NotKept, Xt_NotKept, kk_xi_BadNumber_NotKept⟩
      · exact ⟨C_TooMany, mC_TooMany, Xt_TooMany, kk_xi_BadNumber_TooMany⟩
      · exact ⟨C_BadWeight, mC_BadWeight, Xt_BadWeight, kk_xi_BadNumber_BadWeight⟩
      · exact ⟨C_NoPlace, mC_NoPlace, Xt_NoPlace, kk_xi_BadNumber_NoPlace⟩
      · exact ⟨C_BadDependence, mC_BadDependence, Xt_BadDependence, kk_xi_BadNumber_BadDependence⟩
      · exact ⟨C_BadColumns, mC_BadColumns, Xt_BadColumns, kk_xi_BadNumber_BadColumns⟩⟩⟩⟩,
    ⟨⟨C_BadRow, mC_BadRow, ⟨fun p hp => by
      simp only [xi_BadRow, List.mem_cons, List.not_mem_nil, or_false] at hp
      rcases hp with rfl | rfl | rfl | rfl | rfl | rfl | rfl | rfl | rfl | rfl | rfl | rfl | rfl | rfl | rfl | rfl
      · exact ⟨C_MeanError, mC_MeanError, Xt_MeanError, kk_xi_BadRow_MeanError⟩
      · exact ⟨C_BadText, mC_BadText, Xt_BadText, kk_xi_BadRow_BadText⟩
      · exact ⟨C_BadLevel, mC_BadLevel, Xt_BadLevel, kk_xi_BadRow_BadLevel⟩
      · exact ⟨C_BadRow, mC_BadRow, Xt_BadRow, kk_xi_BadRow_BadRow⟩
      · exact ⟨C_BadSet, mC_BadSet, Xt_BadSet, kk_xi_BadRow_BadSet⟩
      · exact ⟨C_BadNumber, mC_BadNumber, Xt_BadNumber, kk_xi_BadRow_BadNumber⟩
      · exact ⟨C_NothingLeft, mC_NothingLeft, Xt_NothingLeft, kk_xi_BadRow_NothingLeft⟩
      · exact ⟨C_NoTable, mC_NoTable, Xt_NoTable, kk_xi_BadRow_NoTable⟩
      · exact ⟨C_BadLog, mC_BadLog, Xt_BadLog, kk_xi_BadRow_BadLog⟩
      · exact ⟨C_NoProduct, mC_NoProduct, Xt_NoProduct, kk_xi_BadRow_NoProduct⟩
      · exact ⟨C_NotKept, mC_NotKept, Xt_NotKept, kk_xi_BadRow_NotKept⟩
      · exact ⟨C_TooMany, mC_TooMany, Xt_TooMany, kk_xi_BadRow_TooMany⟩
      · exact ⟨C_BadWeight, mC_BadWeight, Xt_BadWeight, kk_xi_BadRow_BadWeight⟩
      · exact ⟨C_NoPlace, mC_NoPlace, Xt_NoPlace, kk_xi_BadRow_NoPlace⟩
      · exact ⟨C_BadDependence, mC_BadDependence, Xt_BadDependence, kk_xi_BadRow_BadDependence⟩
      · exact ⟨C_BadColumns, mC_BadColumns, Xt_BadColumns, kk_xi_BadRow_BadColumns⟩⟩⟩⟩,
    ⟨⟨C_BadSet, mC_BadSet, ⟨fun p hp => by
      simp only [xi_BadSet, List.mem_cons, List.not_mem_nil, or_false] at hp
      rcases hp with rfl | rfl | rfl | rfl | rfl | rfl | rfl | rfl | rfl | rfl | rfl | rfl | rfl | rfl | rfl | rfl
      · exact ⟨C_MeanError, mC_MeanError, Xt_MeanError, kk_xi_BadSet_MeanError⟩
      · exact ⟨C_BadText, mC_BadText, Xt_BadText, kk_xi_BadSet_BadText⟩
      · exact ⟨C_BadLevel, mC_BadLevel, Xt_BadLevel, kk_xi_BadSet_BadLevel⟩
      · exact ⟨C_BadRow, mC_BadRow, Xt_BadRow, kk_xi_BadSet_BadRow⟩
      · exact ⟨C_BadSet, mC_BadSet, Xt_BadSet, kk_xi_BadSet_BadSet⟩
      · exact ⟨C_BadNumber, mC_BadNumber, Xt_BadNumber, kk_xi_BadSet_BadNumber⟩
      · exact ⟨C_NothingLeft, mC_NothingLeft, Xt_NothingLeft, kk_xi_BadSet_NothingLeft⟩
      · exact ⟨C_NoTable, mC_NoTable, Xt_NoTable, kk_xi_BadSet_NoTable⟩
      · exact ⟨C_BadLog, mC_BadLog, Xt_BadLog, kk_xi_BadSet_BadLog⟩
      · exact ⟨C_NoProduct, mC_NoProduct, Xt_NoProduct, kk_xi_BadSet_NoProduct⟩
      · exact ⟨C_NotKept, mC_NotKept, Xt_NotKept, kk_xi_BadSet_NotKept⟩
      · exact ⟨C_TooMany, mC_TooMany, Xt_TooMany, kk_xi_BadSet_TooMany⟩
      · exact ⟨C_BadWeight, mC_BadWeight, Xt_BadWeight, kk_xi_BadSet_BadWeight⟩
      · exact ⟨C_NoPlace, mC_NoPlace, Xt_NoPlace, kk_xi_BadSet_NoPlace⟩
      · exact ⟨C_BadDependence, mC_BadDependence, Xt_BadDependence, kk_xi_BadSet_BadDependence⟩
      · exact ⟨C_BadColumns, mC_BadColumns, Xt_BadColumns, kk_xi_BadSet_BadColumns⟩⟩⟩⟩,
    ⟨⟨C_BadText, mC_BadText, ⟨fun p hp => by
      simp only [xi_BadText, List.mem_cons, List.not_mem_nil, or_false] at hp
      rcases hp with rfl | rfl | rfl | rfl | rfl | rfl | rfl | rfl | rfl | rfl | rfl | rfl | rfl | rfl | rfl | rfl
      · exact ⟨C_MeanError, mC_MeanError, Xt_MeanError, kk_xi_BadText_MeanError⟩
      · exact ⟨C_BadText, mC_BadText, Xt_BadText, kk_xi_BadText_BadText⟩
      · exact ⟨C_BadLevel, mC_BadLevel, Xt_BadLevel, kk_xi_BadText_BadLevel⟩
      · exact ⟨C_BadRow, mC_BadRow, Xt_BadRow, kk_xi_BadText_BadRow⟩
      · exact ⟨C_BadSet, mC_BadSet, Xt_BadSet, kk_xi_BadText_BadSet⟩
      · exact ⟨C_BadNumber, mC_BadNumber, Xt_BadNumber, kk_xi_BadText_BadNumber⟩
      · exact ⟨C_NothingLeft, mC_NothingLeft, Xt_NothingLeft, kk_xi_BadText_NothingLeft⟩
      · exact ⟨C_NoTable, mC_NoTable, Xt_NoTable, kk_xi_BadText_NoTable⟩
      · exact ⟨C_BadLog, mC_BadLog, Xt_BadLog, kk_xi_BadText_BadLog⟩
      · exact ⟨C_NoProduct, mC_NoProduct, Xt_NoProduct, kk_xi_BadText_NoProduct⟩
      · exact ⟨C_NotKept, mC_NotKept, Xt_NotKept, kk_xi_BadText_NotKept⟩
      · exact ⟨C_TooMany, mC_TooMany, Xt_TooMany, kk_xi_BadText_TooMany⟩
      · exact ⟨C_BadWeight, mC_BadWeight, Xt_BadWeight, kk_xi_BadText_BadWeight⟩
      · exact ⟨C_NoPlace, mC_NoPlace, Xt_NoPlace, kk_xi_BadText_NoPlace⟩
      · exact ⟨C_BadDependence, mC_BadDependence, Xt_BadDependence, kk_xi_BadText_BadDependence⟩
      · exact ⟨C_BadColumns, mC_BadColumns, Xt_BadColumns, kk_xi_BadText_BadColumns⟩⟩⟩⟩,
    ⟨⟨C_BadWeight, mC_BadWeight, ⟨fun p hp => by
      simp only [xi_BadWeight, List.mem_cons, List.not_mem_nil, or_false] at hp
      rcases hp with rfl | rfl | rfl | rfl | rfl | rfl | rfl | rfl | rfl | rfl | rfl | rfl | rfl | rfl | rfl | rfl
      · exact ⟨C_MeanError, mC_MeanError, Xt_MeanError, kk_xi_BadWeight_MeanError⟩
      · exact ⟨C_BadText, mC_BadText, Xt_BadText, kk_xi_BadWeight_BadText⟩
      · exact ⟨C_BadLevel, mC_BadLevel, Xt_BadLevel, kk_xi_BadWeight_BadLevel⟩
      · exact ⟨C_BadRow, mC_BadRow, Xt_BadRow, kk_xi_BadWeight_BadRow⟩
      · exact ⟨C_BadSet, mC_BadSet, Xt_BadSet, kk_xi_BadWeight_BadSet⟩
      · exact ⟨C_BadNumber, mC_BadNumber, Xt_BadNumber, kk_xi_BadWeight_BadNumber⟩
      · exact ⟨C_NothingLeft, mC_NothingLeft, Xt_NothingLeft, kk_xi_BadWeight_NothingLeft⟩
      · exact ⟨C_NoTable, mC_NoTable, Xt_NoTable, kk_xi_BadWeight_NoTable⟩
      · exact ⟨C_BadLog, mC_BadLog, Xt_BadLog, kk_xi_BadWeight_BadLog⟩
      · exact ⟨C_NoProduct, mC_NoProduct, Xt_NoProduct, kk_xi_BadWeight_NoProduct⟩
      · exact ⟨C_NotKept, mC_NotKept, Xt_NotKept, kk_xi_BadWeight_NotKept⟩
      · exact ⟨C_TooMany, mC_TooMany, Xt_TooMany, kk_xi_BadWeight_TooMany⟩
      · exact ⟨C_BadWeight, mC_BadWeight, Xt_BadWeight, kk_xi_BadWeight_BadWeight⟩
      · exact ⟨C_NoPlace, mC_NoPlace, Xt_NoPlace, kk_xi_BadWeight_NoPlace⟩
      · exact ⟨C_BadDependence, mC_BadDependence, Xt_BadDependence, kk_xi_BadWeight_BadDependence⟩
      · exact ⟨C_BadColumns, mC_BadColumns, Xt_BadColumns, kk_xi_BadWeight_BadColumns⟩⟩⟩⟩,
    ⟨⟨C_MeanError, mC_MeanError, ⟨fun p hp => by
      simp only [xi_MeanError, List.mem_cons, List.not_mem_nil, or_false] at hp
      rcases hp with rfl | rfl | rfl | rfl | rfl | rfl | rfl | rfl | rfl | rfl | rfl | rfl | rfl | rfl | rfl | rfl
      · exact ⟨C_MeanError, mC_MeanError, Xt_MeanError, kk_xi_MeanError_MeanError⟩
      · exact ⟨C_BadText, mC_BadText, Xt_BadText, kk_xi_MeanError_BadText⟩
      · exact ⟨C_BadLevel, mC_BadLevel, Xt_BadLevel, kk_xi_MeanError_BadLevel⟩
      · exact ⟨C_BadRow, mC_BadRow, Xt_BadRow, kk_xi_MeanError_BadRow⟩
      · exact ⟨C_BadSet, mC_BadSet, Xt_BadSet, kk_xi_MeanError_BadSet⟩
      · exact ⟨C_BadNumber, mC_BadNumber, Xt_BadNumber, kk_xi_MeanError_BadNumber⟩
      · exact ⟨C_NothingLeft, mC_NothingLeft, Xt_NothingLeft, kk_xi_MeanError_NothingLeft⟩
      · exact ⟨C_NoTable, mC_NoTable, Xt_NoTable, kk_xi_MeanError_NoTable⟩
      · exact ⟨C_BadLog, mC_BadLog, Xt_BadLog, kk_xi_MeanError_BadLog⟩
      · exact ⟨C_NoProduct, mC_NoProduct, Xt_NoProduct, kk_xi_MeanError_NoProduct⟩
      · exact ⟨C_NotKept, mC_NotKept, Xt_NotKept, kk_xi_MeanError_NotKept⟩
      · exact ⟨C_TooMany, mC_TooMany, Xt_TooMany, kk_xi_MeanError_TooMany⟩
      · exact ⟨C_BadWeight, mC_BadWeight, Xt_BadWeight, kk_xi_MeanError_BadWeight⟩
      · exact ⟨C_NoPlace, mC_NoPlace, Xt_NoPlace, kk_xi_MeanError_NoPlace⟩
      · exact ⟨C_BadDependence, mC_BadDependence, Xt_BadDependence, kk_xi_MeanError_BadDependence⟩
      · exact ⟨C_BadColumns, mC_BadColumns, Xt_BadColumns, kk_xi_MeanError_BadColumns⟩⟩⟩⟩,
    ⟨⟨C_NoPlace, mC_NoPlace, ⟨fun p hp => by
      simp only [xi_NoPlace, List.mem_cons, List.not_mem_nil, or_false] at hp
      rcases hp with rfl | rfl | rfl | rfl | rfl | rfl | rfl | rfl | rfl | rfl | rfl | rfl | rfl | rfl | rfl | rfl
      · exact ⟨C_MeanError, mC_MeanError, Xt_MeanError, kk_xi_NoPlace_MeanError⟩
      · exact ⟨C_BadText, mC_BadText, Xt_BadText, kk_xi_NoPlace_BadText⟩
      · exact ⟨C_BadLevel, mC_BadLevel, Xt_BadLevel, kk_xi_NoPlace_BadLevel⟩
      · exact ⟨C_BadRow, mC_BadRow, Xt_BadRow, kk_xi_NoPlace_BadRow⟩
      · exact ⟨C_BadSet, mC_BadSet, Xt_BadSet, kk_xi_NoPlace_BadSet⟩
      · exact ⟨C_BadNumber, mC_BadNumber, Xt_BadNumber, kk_xi_NoPlace_BadNumber⟩
      · exact ⟨C_NothingLeft, mC_NothingLeft, Xt_NothingLeft, kk_xi_NoPlace_NothingLeft⟩
      · exact ⟨C_NoTable, mC_NoTable, Xt_NoTable, kk_xi_NoPlace_NoTable⟩
      · exact ⟨C_BadLog, mC_BadLog, Xt_BadLog, kk_xi_NoPlace_BadLog⟩
      · exact ⟨C_NoProduct, mC_NoProduct, Xt_NoProduct, kk_xi_NoPlace_NoProduct⟩
      · exact ⟨C_NotKept, mC_NotKept, Xt_NotKept, kk_xi_NoPlace_NotKept⟩
      · exact ⟨C_TooMany, mC_TooMany, Xt_TooMany, kk_xi_NoPlace_TooMany⟩
      · exact ⟨C_BadWeight, mC_BadWeight, Xt_BadWeight, kk_xi_NoPlace_BadWeight⟩
      · exact ⟨C_NoPlace, mC_NoPlace, Xt_NoPlace, kk_xi_NoPlace_NoPlace⟩
      · exact ⟨C_BadDependence, mC_BadDependence, Xt_BadDependence, kk_xi_NoPlace_BadDependence⟩
      · exact ⟨C_BadColumns, mC_BadColumns, Xt_BadColumns, kk_xi_NoPlace_BadColumns⟩⟩⟩⟩,
    ⟨⟨C_NoProduct, mC_NoProduct, ⟨fun p hp => by
      simp only [xi_NoProduct, List.mem_cons, List.not_mem_nil, or_false] at hp
      rcases hp with rfl | rfl | rfl | rfl | rfl | rfl | rfl | rfl | rfl | rfl | rfl | rfl | rfl | rfl | rfl | rfl
      · exact ⟨C_MeanError, mC_MeanError, Xt_MeanError, kk_xi_NoProduct_MeanError⟩
      · exact ⟨C_BadText, mC_BadText, Xt_BadText, kk_xi_NoProduct_BadText⟩
      · exact ⟨C_BadLevel, mC_BadLevel, Xt_BadLevel, kk_xi_NoProduct_BadLevel⟩
      · exact ⟨C_BadRow, mC_BadRow, Xt_BadRow, kk_xi_NoProduct_BadRow⟩
      · exact ⟨C_BadSet, mC_BadSet, Xt_BadSet, kk_xi_NoProduct_BadSet⟩
      · exact ⟨C_BadNumber, mC_BadNumber, Xt_BadNumber, kk_xi_NoProduct_BadNumber⟩
      · exact ⟨C_NothingLeft, mC_NothingLeft, Xt_NothingLeft, kk_xi_NoProduct_NothingLeft⟩
      · exact ⟨C_NoTable, mC_NoTable, Xt_NoTable, kk_xi_NoProduct_NoTable⟩
      · exact ⟨C_BadLog, mC_BadLog, Xt_BadLog, kk_xi_NoProduct_BadLog⟩
      · exact ⟨C_NoProduct, mC_NoProduct, Xt_NoProduct, kk_xi_NoProduct_NoProduct⟩
      · exact ⟨C_NotKept, mC_NotKept, Xt_NotKept, kk_xi_NoProduct_NotKept⟩
      · exact ⟨C_TooMany, mC_TooMany, Xt_TooMany, kk_xi_NoProduct_TooMany⟩
      · exact ⟨C_BadWeight, mC_BadWeight, Xt_BadWeight, kk_xi_NoProduct_BadWeight⟩
      · exact ⟨C_NoPlace, mC_NoPlace, Xt_NoPlace, kk_xi_NoProduct_NoPlace⟩
      · exact ⟨C_BadDependence, mC_BadDependence, Xt_BadDependence, kk_xi_NoProduct_BadDependence⟩
      · exact ⟨C_BadColumns, mC_BadColumns, Xt_BadColumns, kk_xi_NoProduct_BadColumns⟩⟩⟩⟩,
    ⟨⟨C_NoTable, mC_NoTable, ⟨fun p hp => by
      simp only [xi_NoTable, List.mem_cons, List.not_mem_nil, or_false] at hp
      rcases hp with rfl | rfl | rfl | rfl | rfl | rfl | rfl | rfl | rfl | rfl | rfl | rfl | rfl | rfl | rfl | rfl
      · exact ⟨C_MeanError, mC_MeanError, Xt_MeanError, kk_xi_NoTable_MeanError⟩
      · exact ⟨C_BadText, mC_BadText, Xt_BadText, kk_xi_NoTable_BadText⟩
      · exact ⟨C_BadLevel, mC_BadLevel, Xt_BadLevel, kk_xi_NoTable_BadLevel⟩
      · exact ⟨C_BadRow, mC_BadRow, Xt_BadRow, kk_xi_NoTable_BadRow⟩
      · exact ⟨C_BadSet, mC_BadSet, Xt_BadSet, kk_xi_NoTable_BadSet⟩
      · exact ⟨C_BadNumber, mC_BadNumber, Xt_BadNumber, kk_xi_NoTable_BadNumber⟩
      · exact ⟨C_NothingLeft, mC_NothingLeft, Xt_NothingLeft, kk_xi_NoTable_NothingLeft⟩
      · exact ⟨C_NoTable, mC_NoTable, Xt_NoTable, kk_xi_NoTable_NoTable⟩
      · exact ⟨C_BadLog, mC_BadLog, Xt_BadLog, kk_xi_NoTable_BadLog⟩
      · exact ⟨C_NoProduct, mC_NoProduct, Xt_NoProduct, kk_xi_NoTable_NoProduct⟩
      · exact ⟨C_NotKept, mC_NotKept, Xt_NotKept, kk_xi_NoTable_NotKept⟩
      · exact ⟨C_TooMany, mC_TooMany, Xt_TooMany, kk_xi_NoTable_TooMany⟩
      · exact ⟨C_BadWeight, mC_BadWeight, Xt_BadWeight, kk_xi_NoTable_BadWeight⟩
      · exact ⟨C_NoPlace, mC_NoPlace, Xt_NoPlace, kk_xi_NoTable_NoPlace⟩
      · exact ⟨C_BadDependence, mC_BadDependence, Xt_BadDependence, kk_xi_NoTable_BadDependence⟩
      · exact ⟨C_BadColumns, mC_BadColumns, Xt_BadColumns, kk_xi_NoTable_BadColumns⟩⟩⟩⟩,
    ⟨⟨C_NotKept, mC_NotKept, ⟨fun p hp => by
      simp only [xi_NotKept, List.mem_cons, List.not_mem_nil, or_false] at hp
      rcases hp with rfl | rfl | rfl | rfl | rfl | rfl | rfl | rfl | rfl | rfl | rfl | rfl | rfl | rfl | rfl | rfl
      · exact ⟨C_MeanError, mC_MeanError, Xt_MeanError, kk_xi_NotKept_MeanError⟩
      · exact ⟨C_BadText, mC_BadText, Xt_BadText, kk_xi_NotKept_BadText⟩
      · exact ⟨C_BadLevel, mC_BadLevel, Xt_BadLevel, kk_xi_NotKept_BadLevel⟩
      · exact ⟨C_BadRow, mC_BadRow, Xt_BadRow, kk_xi_NotKept_BadRow⟩
      · exact ⟨C_BadSet, mC_BadSet, Xt_BadSet, kk_xi_NotKept_BadSet⟩
      · exact ⟨C_BadNumber, mC_BadNumber, Xt_BadNumber, kk_xi_NotKept_BadNumber⟩
      · exact ⟨C_NothingLeft, mC_NothingLeft, Xt_NothingLeft, kk_xi_NotKept_NothingLeft⟩
      · exact ⟨C_NoTable, mC_NoTable, Xt_NoTable, kk_xi_NotKept_NoTable⟩
      · exact ⟨C_BadLog, mC_BadLog, Xt_BadLog, kk_xi_NotKept_BadLog⟩
      · exact ⟨C_NoProduct, mC_NoProduct, Xt_NoProduct, kk_xi_NotKept_NoProduct⟩
      · exact ⟨C_NotKept, mC_NotKept, Xt_NotKept, kk_xi_NotKept_NotKept⟩
      · exact ⟨C_TooMany, mC_TooMany, Xt_TooMany, kk_xi_NotKept_TooMany⟩
      · exact ⟨C_BadWeight, mC_BadWeight, Xt_BadWeight, kk_xi_NotKept_BadWeight⟩
      · exact ⟨C_NoPlace, mC_NoPlace, Xt_NoPlace, kk_xi_NotKept_NoPlace⟩
      · exact ⟨C_BadDependence, mC_BadDependence, Xt_BadDependence, kk_xi_NotKept_BadDependence⟩
      · exact ⟨C_BadColumns, mC_BadColumns, Xt_BadColumns, kk_xi_NotKept_BadColumns⟩⟩⟩⟩,
    ⟨⟨C_NothingLeft, mC_NothingLeft, ⟨fun p hp => by
      simp only [xi_NothingLeft, List.mem_cons, List.not_mem_nil, or_false] at hp
      rcases hp with rfl | rfl | rfl | rfl | rfl | rfl | rfl | rfl | rfl | rfl | rfl | rfl | rfl | rfl | rfl | rfl
      · exact ⟨C_MeanError, mC_MeanError, Xt_MeanError, kk_xi_NothingLeft_MeanError⟩
      · exact ⟨C_BadText, mC_BadText, Xt_BadText, kk_xi_NothingLeft_BadText⟩
      · exact ⟨C_BadLevel, mC_BadLevel, Xt_BadLevel, kk_xi_NothingLeft_BadLevel⟩
      · exact ⟨C_BadRow, mC_BadRow, Xt_BadRow, kk_xi_NothingLeft_BadRow⟩
      · exact ⟨C_BadSet, mC_BadSet, Xt_BadSet, kk_xi_NothingLeft_BadSet⟩
      · exact ⟨C_BadNumber, mC_BadNumber, Xt_BadNumber, kk_xi_NothingLeft_BadNumber⟩
      · exact ⟨C_NothingLeft, mC_NothingLeft, Xt_NothingLeft, kk_xi_NothingLeft_NothingLeft⟩
      · exact ⟨C_NoTable, mC_NoTable, Xt_NoTable, kk_xi_NothingLeft_NoTable⟩
      · exact ⟨C_BadLog, mC_BadLog, Xt_BadLog, kk_xi_NothingLeft_BadLog⟩
      · exact ⟨C_NoProduct, mC_NoProduct, Xt_NoProduct, kk_xi_NothingLeft_NoProduct⟩
      · exact ⟨C_NotKept, mC_NotKept, Xt_NotKept, kk_xi_NothingLeft_NotKept⟩
      · exact ⟨C_TooMany, mC_TooMany, Xt_TooMany, kk_xi_NothingLeft_TooMany⟩
      · exact ⟨C_BadWeight, mC_BadWeight, Xt_BadWeight, kk_xi_NothingLeft_BadWeight⟩
      · exact ⟨C_NoPlace, mC_NoPlace, Xt_NoPlace, kk_xi_NothingLeft_NoPlace⟩
      · exact ⟨C_BadDependence, mC_BadDependence, Xt_BadDependence, kk_xi_NothingLeft_BadDependence⟩
      · exact ⟨C_BadColumns, mC_BadColumns, Xt_BadColumns, kk_xi_NothingLeft_BadColumns⟩⟩⟩⟩,
    ⟨⟨C_TooMany, mC_TooMany, ⟨fun p hp => by
      simp only [xi_TooMany, List.mem_cons, List.not_mem_nil, or_false] at hp
      rcases hp with rfl | rfl | rfl | rfl | rfl | rfl | rfl | rfl | rfl | rfl | rfl | rfl | rfl | rfl | rfl | rfl
      · exact ⟨C_MeanError, mC_MeanError, Xt_MeanError, kk_xi_TooMany_MeanError⟩
      · exact ⟨C_BadText, mC_BadText, Xt_BadText, kk_xi_TooMany_BadText⟩
      · exact ⟨C_BadLevel, mC_BadLevel, Xt_BadLevel, kk_xi_TooMany_BadLevel⟩
      · exact ⟨C_BadRow, mC_BadRow, Xt_BadRow, kk_xi_TooMany_BadRow⟩
      · exact ⟨C_BadSet, mC_BadSet, Xt_BadSet, kk_xi_TooMany_BadSet⟩
      · exact ⟨C_BadNumber, mC_BadNumber, Xt_BadNumber, kk_xi_TooMany_BadNumber⟩
      · exact ⟨C_NothingLeft, mC_NothingLeft, Xt_NothingLeft, kk_xi_TooMany_NothingLeft⟩
      · exact ⟨C_NoTable, mC_NoTable, Xt_NoTable, kk_xi_TooMany_NoTable⟩
      · exact ⟨C_BadLog, mC_BadLog, Xt_BadLog, kk_xi_TooMany_BadLog⟩
      · exact ⟨C_NoProduct, mC_NoProduct, Xt_NoProduct, kk_xi_TooMany_NoProduct⟩
      · exact ⟨C_NotKept, mC_NotKept, Xt_NotKept, kk_xi_TooMany_NotKept⟩
      · exact ⟨C_TooMany, mC_TooMany, Xt_TooMany, kk_xi_TooMany_TooMany⟩
      · exact ⟨C_BadWeight, mC_BadWeight, Xt_BadWeight, kk_xi_TooMany_BadWeight⟩
      · exact ⟨C_NoPlace, mC_NoPlace, Xt_NoPlace, kk_xi_TooMany_NoPlace⟩
      · exact ⟨C_BadDependence, mC_BadDependence, Xt_BadDependence, kk_xi_TooMany_BadDependence⟩
      · exact ⟨C_BadColumns, mC_BadColumns, Xt_BadColumns, kk_xi_TooMany_BadColumns⟩⟩⟩⟩,
    ⟨fun p hp => by
      simp only [xi_ValueError, List.mem_cons, List.not_mem_nil, or_false] at hp
      rcases hp with rfl | rfl | rfl | rfl | rfl | rfl | rfl | rfl | rfl | rfl | rfl | rfl | rfl | rfl | rfl | rfl
      · exact ⟨C_MeanError, mC_MeanError, Xt_MeanError, kk_xi_ValueError_MeanError⟩
      · exact ⟨C_BadText, mC_BadText, Xt_BadText, kk_xi_ValueError_BadText⟩
      · exact ⟨C_BadLevel, mC_BadLevel, Xt_BadLevel, kk_xi_ValueError_BadLevel⟩
      · exact ⟨C_BadRow, mC_BadRow, Xt_BadRow, kk_xi_ValueError_BadRow⟩
      · exact ⟨C_BadSet, mC_BadSet, Xt_BadSet, kk_xi_ValueError_BadSet⟩
      · exact ⟨C_BadNumber, mC_BadNumber, Xt_BadNumber, kk_xi_ValueError_BadNumber⟩
      · exact ⟨C_NothingLeft, mC_NothingLeft, Xt_NothingLeft, kk_xi_ValueError_NothingLeft⟩
      · exact ⟨C_NoTable, mC_NoTable, Xt_NoTable, kk_xi_ValueError_NoTable⟩
      · exact ⟨C_BadLog, mC_BadLog, Xt_BadLog, kk_xi_ValueError_BadLog⟩
      · exact ⟨C_NoProduct, mC_NoProduct, Xt_NoProduct, kk_xi_ValueError_NoProduct⟩
      · exact ⟨C_NotKept, mC_NotKept, Xt_NotKept, kk_xi_ValueError_NotKept⟩
      · exact ⟨C_TooMany, mC_TooMany, Xt_TooMany, kk_xi_ValueError_TooMany⟩
      · exact ⟨C_BadWeight, mC_BadWeight, Xt_BadWeight, kk_xi_ValueError_BadWeight⟩
      · exact ⟨C_NoPlace, mC_NoPlace, Xt_NoPlace, kk_xi_ValueError_NoPlace⟩
      · exact ⟨C_BadDependence, mC_BadDependence, Xt_BadDependence, kk_xi_ValueError_BadDependence⟩
      · exact ⟨C_BadColumns, mC_BadColumns, Xt_BadColumns, kk_xi_ValueError_BadColumns⟩⟩,
    ⟨fun p hp => by
      simp only [xf_at, List.mem_cons, List.not_mem_nil, or_false] at hp
      rcases hp with rfl | rfl | rfl | rfl | rfl
      · exact ⟨C_BadRow, mC_BadRow, ⟨xga_BadRow, xgt_BadRow, xex_BadRow, xhd_BadRow⟩, xno_BadRow⟩
      · exact ⟨C_BadLog, mC_BadLog, ⟨xga_BadLog, xgt_BadLog, xex_BadLog, xhd_BadLog⟩, xno_BadLog⟩
      · exact ⟨C_NoProduct, mC_NoProduct, ⟨xga_NoProduct, xgt_NoProduct, xex_NoProduct, xhd_NoProduct⟩, xno_NoProduct⟩
      · exact ⟨C_NotKept, mC_NotKept, ⟨xga_NotKept, xgt_NotKept, xex_NotKept, xhd_NotKept⟩, xno_NotKept⟩
      · exact ⟨C_BadDependence, mC_BadDependence, ⟨xga_BadDependence, xgt_BadDependence, xex_BadDependence, xhd_BadDependence⟩, xno_BadDependence⟩⟩,
    ⟨fun p hp => by
      simp only [xf_given, List.mem_cons, List.not_mem_nil, or_false] at hp
      rcases hp with rfl
      · exact ⟨C_BadColumns, mC_BadColumns, ⟨xga_BadColumns, xgt_BadColumns, xex_BadColumns, xhd_BadColumns⟩, xno_BadColumns⟩⟩,
    ⟨fun p hp => by
      simp only [xf_letters, List.mem_cons, List.not_mem_nil, or_false] at hp
      rcases hp with rfl | rfl
      · exact ⟨C_BadLevel, mC_BadLevel, ⟨xga_BadLevel, xgt_BadLevel, xex_BadLevel, xhd_BadLevel⟩, xno_BadLevel⟩
      · exact ⟨C_BadSet, mC_BadSet, ⟨xga_BadSet, xgt_BadSet, xex_BadSet, xhd_BadSet⟩, xno_BadSet⟩⟩,
    ⟨fun p hp => by
      simp only [xf_limit, List.mem_cons, List.not_mem_nil, or_false] at hp
      rcases hp with rfl
      · exact ⟨C_TooMany, mC_TooMany, ⟨xga_TooMany, xgt_TooMany, xex_TooMany, xhd_TooMany⟩, xno_TooMany⟩⟩,
    ⟨fun p hp => by
      simp only [xf_number, List.mem_cons, List.not_mem_nil, or_false] at hp
      rcases hp with rfl
      · exact ⟨C_BadNumber, mC_BadNumber, ⟨xga_BadNumber, xgt_BadNumber, xex_BadNumber, xhd_BadNumber⟩, xno_BadNumber⟩⟩,
    ⟨fun p hp => by
      simp only [xf_place, List.mem_cons, List.not_mem_nil, or_false] at hp
      rcases hp with rfl | rfl
      · exact ⟨C_BadText, mC_BadText, ⟨xga_BadText, xgt_BadText, xex_BadText, xhd_BadText⟩, xno_BadText⟩
      · exact ⟨C_NoPlace, mC_NoPlace, ⟨xga_NoPlace, xgt_NoPlace, xex_NoPlace, xhd_NoPlace⟩, xno_NoPlace⟩⟩,
    ⟨fun p hp => by
      simp only [xf_weight, List.mem_cons, List.not_mem_nil, or_false] at hp
      rcases hp with rfl
      · exact ⟨C_BadWeight, mC_BadWeight, ⟨xga_BadWeight, xgt_BadWeight, xex_BadWeight, xhd_BadWeight⟩, xno_BadWeight⟩⟩,
    ⟨⟨C_MeanError, mC_MeanError, xei_MeanError, xkc_MeanError⟩⟩,
    ⟨⟨C_NothingLeft, mC_NothingLeft, xei_NothingLeft, xkc_NothingLeft⟩⟩,
    ⟨⟨C_NoTable, mC_NoTable, xei_NoTable, xkc_NoTable⟩⟩⟩
  have F_law_begun := fun_mk (st := s_law_begun) l_law_begun c_law_begun k_law_begun
  have b_law_begun := F_law_begun.binds (ps := ["_law_script"]) fun _ _ _ _ _ _ us hl => match us, hl with | [_], _ => rfl
  have F_law_kinds := fun_mk (st := s_law_kinds) l_law_kinds c_law_kinds k_law_kinds
  have b_law_kinds := F_law_kinds.binds (ps := ["_law_error"]) fun _ _ _ _ _ _ us hl => match us, hl with | [_], _ => rfl
  have F_law_mixed := fun_mk (st := s_law_mixed) l_law_mixed c_law_mixed k_law_mixed
  have b_law_mixed := F_law_mixed.binds (ps := ["_law_draw"]) fun _ _ _ _ _ _ us hl => match us, hl with | [_], _ => rfl
  have F_law_take := fun_mk (st := s_law_take) l_law_take c_law_take k_law_take
  have b_law_take := F_law_take.binds (ps := ["_law_draw", "_law_size"]) fun _ _ _ _ _ _ us hl => match us, hl with | [_, _], _ => rfl
  have F_law_pick := fun_mk (st := s_law_pick) l_law_pick c_law_pick k_law_pick
  have b_law_pick := F_law_pick.binds (ps := ["_law_draw", "_law_some"]) fun _ _ _ _ _ _ us hl => match us, hl with | [_, _], _ => rfl
  have F_law_odd := fun_mk (st := s_law_odd) l_law_odd c_law_odd k_law_odd
  have b_law_odd := F_law_odd.binds (ps := ["_law_draw"]) fun _ _ _ _ _ _ us hl => match us, hl with | [_], _ => rfl
  have F_law := fun_mk (st := s_law) l_law c_law k_law
  have b_law := F_law.binds (ps := ["_law_script"]) fun _ _ _ _ _ _ us hl => match us, hl with | [_], _ => rfl
  refine ⟨PySem.W.fnOf "law" "law" (defArgs s_law) (defBody s_law) (defScope s_law) .none kV_law dc_law pm_law an_law cd_law ct_law, [], spL ⟨K, mg⟩ law, ?_, fun s v => .of_eq rfl, fun H a ns ok hT hS => ⟨a, ns, rfl, hS, ?_, hp ns ok.1 ok.2, fun _ => rfl⟩, fun base KB NB sm TB => ?_⟩
  · intro p hp
    cases hp
  · intro p hp
    cases hp
  have F_BadText_init := fun_mk (st := s_BadText_init) l_BadText_init c_BadText_init k_BadText_init
  have b_BadText_init := F_BadText_init.binds (ps := ["self", "place"]) fun _ _ _ _ _ _ us hl => match us, hl with | [_, _], _ => rfl
  have Ox_BadText : OexC K C_BadText := ⟨⟨_, _, _, _, _, _, _, _, _, _, _, _, _, _, _, lk_BadText, ki_rv_BadText⟩, xsa_BadText, xex_BadText, xty_BadText, xkc_BadText⟩
  have o_BadText_init := xinit_ok (P := l.prog) (w := w) (mg := mg) (base := base) F_BadText_init sc_BadText_init Ox_BadText xno_BadText rfl (.inl rfl) (.inl rfl)
  have qx_BadText : XcD l.prog w K mg base "BadText" "place" := ⟨⟨C_BadText, f_BadText_init, _, _, mC_BadText, Ox_BadText, a_BadText_init, xti_BadText_init, o_BadText_init, b_BadText_init⟩⟩
  have qx_k_BadText : XckD l.prog w K mg base "BadText" "place" "place" := ⟨⟨C_BadText, f_BadText_init, _, _, mC_BadText, Ox_BadText, a_BadText_init, xti_BadText_init, o_BadText_init, fun s self u => .of_eq rfl⟩⟩
  have F_BadLevel_init := fun_mk (st := s_BadLevel_init) l_BadLevel_init c_BadLevel_init k_BadLevel_init
  have b_BadLevel_init := F_BadLevel_init.binds (ps := ["self", "letters"]) fun _ _ _ _ _ _ us hl => match us, hl with | [_, _], _ => rfl
  have Ox_BadLevel : OexC K C_BadLevel := ⟨⟨_, _, _, _, _, _, _, _, _, _, _, _, _, _, _, lk_BadLevel, ki_rv_BadLevel⟩, xsa_BadLevel, xex_BadLevel, xty_BadLevel, xkc_BadLevel⟩
  have o_BadLevel_init := xinit_ok (P := l.prog) (w := w) (mg := mg) (base := base) F_BadLevel_init sc_BadLevel_init Ox_BadLevel xno_BadLevel rfl (.inl rfl) (.inl rfl)
  have qx_BadLevel : XcD l.prog w K mg base "BadLevel" "letters" := ⟨⟨C_BadLevel, f_BadLevel_init, _, _, mC_BadLevel, Ox_BadLevel, a_BadLevel_init, xti_BadLevel_init, o_BadLevel_init, b_BadLevel_init⟩⟩
  have qx_k_BadLevel : XckD l.prog w K mg base "BadLevel" "letters" "letters" := ⟨⟨C_BadLevel, f_BadLevel_init, _, _, mC_BadLevel, Ox_BadLevel, a_BadLevel_init, xti_BadLevel_init, o_BadLevel_init, fun s self u => .of_eq rfl⟩⟩
  have F_BadRow_init := fun_mk (st := s_BadRow_init) l_BadRow_init c_BadRow_init k_BadRow_init
  have b_BadRow_init := F_BadRow_init.binds (ps := ["self", "at"]) fun _ _ _ _ _ _ us hl => match us, hl with | [_, _], _ => rfl
  have Ox_BadRow : OexC K C_BadRow := ⟨⟨_, _, _, _, _, _, _, _, _, _, _, _, _, _, _, lk_BadRow, ki_rv_BadRow⟩, xsa_BadRow, xex_BadRow, xty_BadRow, xkc_BadRow⟩
  have o_BadRow_init := xinit_ok (P := l.prog) (w := w) (mg := mg) (base := base) F_BadRow_init sc_BadRow_init Ox_BadRow xno_BadRow rfl (.inl rfl) (.inl rfl)
  have qx_BadRow : XcD l.prog w K mg base "BadRow" "at" := ⟨⟨C_BadRow, f_BadRow_init, _, _, mC_BadRow, Ox_BadRow, a_BadRow_init, xti_BadRow_init, o_BadRow_init, b_BadRow_init⟩⟩
  have qx_k_BadRow : XckD l.prog w K mg base "BadRow" "at" "at" := ⟨⟨C_BadRow, f_BadRow_init, _, _, mC_BadRow, Ox_BadRow, a_BadRow_init, xti_BadRow_init, o_BadRow_init, fun s self u => .of_eq rfl⟩⟩
  have F_BadSet_init := fun_mk (st := s_BadSet_init) l_BadSet_init c_BadSet_init k_BadSet_init
  have b_BadSet_init := F_BadSet_init.binds (ps := ["self", "letters"]) fun _ _ _ _ _ _ us hl => match us, hl with | [_, _], _ => rfl
  have Ox_BadSet : OexC K C_BadSet := ⟨⟨_, _, _, _, _, _, _, _, _, _, _, _, _, _, _, lk_BadSet, ki_rv_BadSet⟩, xsa_BadSet, xex_BadSet, xty_BadSet, xkc_BadSet⟩
  have o_BadSet_init := xinit_ok (P := l.prog) (w := w) (mg := mg) (base := base) F_BadSet_init sc_BadSet_init Ox_BadSet xno_BadSet rfl (.inl rfl) (.inl rfl)
  have qx_BadSet : XcD l.prog w K mg base "BadSet" "letters" := ⟨⟨C_BadSet, f_BadSet_init, _, _, mC_BadSet, Ox_BadSet, a_BadSet_init, xti_BadSet_init, o_BadSet_init, b_BadSet_init⟩⟩
  have qx_k_BadSet : XckD l.prog w K mg base "BadSet" "letters" "letters" := ⟨⟨C_BadSet, f_BadSet_init, _, _, mC_BadSet, Ox_BadSet, a_BadSet_init, xti_BadSet_init, o_BadSet_init, fun s self u => .of_eq rfl⟩⟩
  have F_BadNumber_init := fun_mk (st := s_BadNumber_init) l_BadNumber_init c_BadNumber_init k_BadNumber_init
  have b_BadNumber_init := F_BadNumber_init.binds (ps := ["self", "number"]) fun _ _ _ _ _ _ us hl => match us, hl with | [_, _], _ => rfl
  have Ox_BadNumber : OexC K C_BadNumber := ⟨⟨_, _, _, _, _, _, _, _, _, _, _, _, _, _, _, lk_BadNumber, ki_rv_BadNumber⟩, xsa_BadNumber, xex_BadNumber, xty_BadNumber, xkc_BadNumber⟩
  have o_BadNumber_init := xinit_ok (P := l.prog) (w := w) (mg := mg) (base := base) F_BadNumber_init sc_BadNumber_init Ox_BadNumber xno_BadNumber rfl (.inl rfl) (.inl rfl)
  have qx_BadNumber : XcD l.prog w K mg base "BadNumber" "number" := ⟨⟨C_BadNumber, f_BadNumber_init, _, _, mC_BadNumber, Ox_BadNumber, a_BadNumber_init, xti_BadNumber_init, o_BadNumber_init, b_BadNumber_init⟩⟩
  have qx_k_BadNumber : XckD l.prog w K mg base "BadNumber" "number" "number" := ⟨⟨C_BadNumber, f_BadNumber_init, _, _, mC_BadNumber, Ox_BadNumber, a_BadNumber_init, xti_BadNumber_init, o_BadNumber_init, fun s self u => .of_eq rfl⟩⟩
  have F_BadLog_init := fun_mk (st := s_BadLog_init) l_BadLog_init c_BadLog_init k_BadLog_init
  have b_BadLog_init := F_BadLog_init.binds (ps := ["self", "at"]) fun _ _ _ _ _ _ us hl => match us, hl with | [_, _], _ => rfl
  have Ox_BadLog : OexC K C_BadLog := ⟨⟨_, _, _, _, _, _, _, _, _, _, _, _, _, _, _, lk_BadLog, ki_rv_BadLog⟩, xsa_BadLog, xex_BadLog, xty_BadLog, xkc_BadLog⟩
  have o_BadLog_init := xinit_ok (P := l.prog) (w := w) (mg := mg) (base := base) F_BadLog_init sc_BadLog_init Ox_BadLog xno_BadLog rfl (.inl rfl) (.inl rfl)
  have qx_BadLog : XcD l.prog w K mg base "BadLog" "at" := ⟨⟨C_BadLog, f_BadLog_init, _, _, mC_BadLog, Ox_BadLog, a_BadLog_init, xti_BadLog_init, o_BadLog_init, b_BadLog_init⟩⟩
  have qx_k_BadLog : XckD l.prog w K mg base "BadLog" "at" "at" := ⟨⟨C_BadLog, f_BadLog_init, _, _, mC_BadLog, Ox_BadLog, a_BadLog_init, xti_BadLog_init, o_BadLog_init, fun s self u => .of_eq rfl⟩⟩
  have F_NoProduct_init := fun_mk (st := s_NoProduct_init) l_NoProduct_init c_NoProduct_init k_NoProduct_init
  have b_NoProduct_init := F_NoProduct_init.binds (ps := ["self", "at"]) fun _ _ _ _ _ _ us hl => match us, hl with | [_, _], _ => rfl
  have Ox_NoProduct : OexC K C_NoProduct := ⟨⟨_, _, _, _, _, _, _, _, _, _, _, _, _, _, _, lk_NoProduct, ki_rv_NoProduct⟩, xsa_NoProduct, xex_NoProduct, xty_NoProduct, xkc_NoProduct⟩
  have o_NoProduct_init := xinit_ok (P := l.prog) (w := w) (mg := mg) (base := base) F_NoProduct_init sc_NoProduct_init Ox_NoProduct xno_NoProduct rfl (.inl rfl) (.inl rfl)
  have qx_NoProduct : XcD l.prog w K mg base "NoProduct" "at" := ⟨⟨C_NoProduct, f_NoProduct_init, _, _, mC_NoProduct, Ox_NoProduct, a_NoProduct_init, xti_NoProduct_init, o_NoProduct_init, b_NoProduct_init⟩⟩
  have F_NotKept_init := fun_mk (st := s_NotKept_init) l_NotKept_init c_NotKept_init k_NotKept_init
  have b_NotKept_init := F_NotKept_init.binds (ps := ["self", "at"]) fun _ _ _ _ _ _ us hl => match us, hl with | [_, _], _ => rfl
  have Ox_NotKept : OexC K C_NotKept := ⟨⟨_, _, _, _, _, _, _, _, _, _, _, _, _, _, _, lk_NotKept, ki_rv_NotKept⟩, xsa_NotKept, xex_NotKept, xty_NotKept, xkc_NotKept⟩
  have o_NotKept_init := xinit_ok (P := l.prog) (w := w) (mg := mg) (base := base) F_NotKept_init sc_NotKept_init Ox_NotKept xno_NotKept rfl (.inl rfl) (.inl rfl)
  have qx_NotKept : XcD l.prog w K mg base "NotKept" "at" := ⟨⟨C_NotKept, f_NotKept_init, _, _, mC_NotKept, Ox_NotKept, a_NotKept_init, xti_NotKept_init, o_NotKept_init, b_NotKept_init⟩⟩
  have qx_k_NotKept : XckD l.prog w K mg base "NotKept" "at" "at" := ⟨⟨C_NotKept, f_NotKept_init, _, _, mC_NotKept, Ox_NotKept, a_NotKept_init, xti_NotKept_init, o_NotKept_init, fun s self u => .of_eq rfl⟩⟩
  have F_TooMany_init := fun_mk (st := s_TooMany_init) l_TooMany_init c_TooMany_init k_TooMany_init
  have b_TooMany_init := F_TooMany_init.binds (ps := ["self", "limit"]) fun _ _ _ _ _ _ us hl => match us, hl with | [_, _], _ => rfl
  have Ox_TooMany : OexC K C_TooMany := ⟨⟨_, _, _, _, _, _, _, _, _, _, _, _, _, _, _, lk_TooMany, ki_rv_TooMany⟩, xsa_TooMany, xex_TooMany, xty_TooMany, xkc_TooMany⟩
  have o_TooMany_init := xinit_ok (P := l.prog) (w := w) (mg := mg) (base := base) F_TooMany_init sc_TooMany_init Ox_TooMany xno_TooMany rfl (.inl rfl) (.inl rfl)
  have qx_TooMany : XcD l.prog w K mg base "TooMany" "limit" := ⟨⟨C_TooMany, f_TooMany_init, _, _, mC_TooMany, Ox_TooMany, a_TooMany_init, xti_TooMany_init, o_TooMany_init, b_TooMany_init⟩⟩
  have qx_k_TooMany : XckD l.prog w K mg base "TooMany" "limit" "limit" := ⟨⟨C_TooMany, f_TooMany_init, _, _, mC_TooMany, Ox_TooMany, a_TooMany_init, xti_TooMany_init, o_TooMany_init, fun s self u => .of_eq rfl⟩⟩
  have F_BadWeight_init := fun_mk (st := s_BadWeight_init) l_BadWeight_init c_BadWeight_init k_BadWeight_init
  have b_BadWeight_init := F_BadWeight_init.binds (ps := ["self", "weight"]) fun _ _ _ _ _ _ us hl => match us, hl with | [_, _], _ => rfl
  have Ox_BadWeight : OexC K C_BadWeight := ⟨⟨_, _, _, _, _, _, _, _, _, _, _, _, _, _, _, lk_BadWeight, ki_rv_BadWeight⟩, xsa_BadWeight, xex_BadWeight, xty_BadWeight, xkc_BadWeight⟩
  have o_BadWeight_init := xinit_ok (P := l.prog) (w := w) (mg := mg) (base := base) F_BadWeight_init sc_BadWeight_init Ox_BadWeight xno_BadWeight rfl (.inl rfl) (.inl rfl)
  have qx_BadWeight : XcD l.prog w K mg base "BadWeight" "weight" := ⟨⟨C_BadWeight, f_BadWeight_init, _, _, mC_BadWeight, Ox_BadWeight, a_BadWeight_init, xti_BadWeight_init, o_BadWeight_init, b_BadWeight_init⟩⟩
  have qx_k_BadWeight : XckD l.prog w K mg base "BadWeight" "weight" "weight" := ⟨⟨C_BadWeight, f_BadWeight_init, _, _, mC_BadWeight, Ox_BadWeight, a_BadWeight_init, xti_BadWeight_init, o_BadWeight_init, fun s self u => .of_eq rfl⟩⟩
  have F_NoPlace_init := fun_mk (st := s_NoPlace_init) l_NoPlace_init c_NoPlace_init k_NoPlace_init
  have b_NoPlace_init := F_NoPlace_init.binds (ps := ["self", "place"]) fun _ _ _ _ _ _ us hl => match us, hl with | [_, _], _ => rfl
  have Ox_NoPlace : OexC K C_NoPlace := ⟨⟨_, _, _, _, _, _, _, _, _, _, _, _, _, _, _, lk_NoPlace, ki_rv_NoPlace⟩, xsa_NoPlace, xex_NoPlace, xty_NoPlace, xkc_NoPlace⟩
  have o_NoPlace_init := xinit_ok (P := l.prog) (w := w) (mg := mg) (base := base) F_NoPlace_init sc_NoPlace_init Ox_NoPlace xno_NoPlace rfl (.inl rfl) (.inl rfl)
  have qx_NoPlace : XcD l.prog w K mg base "NoPlace" "place" := ⟨⟨C_NoPlace, f_NoPlace_init, _, _, mC_NoPlace, Ox_NoPlace, a_NoPlace_init, xti_NoPlace_init, o_NoPlace_init, b_NoPlace_init⟩⟩
  have qx_k_NoPlace : XckD l.prog w K mg base "NoPlace" "place" "place" := ⟨⟨C_NoPlace, f_NoPlace_init, _, _, mC_NoPlace, Ox_NoPlace, a_NoPlace_init, xti_NoPlace_init, o_NoPlace_init, fun s self u => .of_eq rfl⟩⟩
  have F_BadDependence_init := fun_mk (st := s_BadDependence_init) l_BadDependence_init c_BadDependence_init k_BadDependence_init
  have b_BadDependence_init := F_BadDependence_init.binds (ps := ["self", "at"]) fun _ _ _ _ _ _ us hl => match us, hl with | [_, _], _ => rfl
  have Ox_BadDependence : OexC K C_BadDependence := ⟨⟨_, _, _, _, _, _, _, _, _, _, _, _, _, _, _, lk_BadDependence, ki_rv_BadDependence⟩, xsa_BadDependence, xex_BadDependence, xty_BadDependence, xkc_BadDependence⟩
  have o_BadDependence_init := xinit_ok (P := l.prog) (w := w) (mg := mg) (base := base) F_BadDependence_init sc_BadDependence_init Ox_BadDependence xno_BadDependence rfl (.inl rfl) (.inl rfl)
  have qx_BadDependence : XcD l.prog w K mg base "BadDependence" "at" := ⟨⟨C_BadDependence, f_BadDependence_init, _, _, mC_BadDependence, Ox_BadDependence, a_BadDependence_init, xti_BadDependence_init, o_BadDependence_init, b_BadDependence_init⟩⟩
  have qx_k_BadDependence : XckD l.prog w K mg base "BadDependence" "at" "at" := ⟨⟨C_BadDependence, f_BadDependence_init, _, _, mC_BadDependence, Ox_BadDependence, a_BadDependence_init, xti_BadDependence_init, o_BadDependence_init, fun s self u => .of_eq rfl⟩⟩
  have F_BadColumns_init := fun_mk (st := s_BadColumns_init) l_BadColumns_init c_BadColumns_init k_BadColumns_init
  have b_BadColumns_init := F_BadColumns_init.binds (ps := ["self", "given"]) fun _ _ _ _ _ _ us hl => match us, hl with | [_, _], _ => rfl
  have Ox_BadColumns : OexC K C_BadColumns := ⟨⟨_, _, _, _, _, _, _, _, _, _, _, _, _, _, _, lk_BadColumns, ki_rv_BadColumns⟩, xsa_BadColumns, xex_BadColumns, xty_BadColumns, xkc_BadColumns⟩
  have o_BadColumns_init := xinit_ok (P := l.prog) (w := w) (mg := mg) (base := base) F_BadColumns_init sc_BadColumns_init Ox_BadColumns xno_BadColumns rfl (.inl rfl) (.inl rfl)
  have qx_BadColumns : XcD l.prog w K mg base "BadColumns" "given" := ⟨⟨C_BadColumns, f_BadColumns_init, _, _, mC_BadColumns, Ox_BadColumns, a_BadColumns_init, xti_BadColumns_init, o_BadColumns_init, b_BadColumns_init⟩⟩
  have qx_k_BadColumns : XckD l.prog w K mg base "BadColumns" "given" "given" := ⟨⟨C_BadColumns, f_BadColumns_init, _, _, mC_BadColumns, Ox_BadColumns, a_BadColumns_init, xti_BadColumns_init, o_BadColumns_init, fun s self u => .of_eq rfl⟩⟩
  have o_law_begun := ok_law_begun (P := l.prog) (w := w) (base := base) G F_law_begun
  have o_law_kinds := ok_law_kinds (P := l.prog) (w := w) (base := base) G F_law_kinds
  have q_law_kinds : CalD l.prog w K mg base 2 "_law_kinds" 1 [] D_law_kinds := ⟨⟨_, _, _, [], [], o_law_kinds, PySem.W.mg_of X G0 a_law_kinds, k_law_kinds, b_law_kinds, .nil, fun _ _ => .nil⟩⟩
  have o_law_mixed := ok_law_mixed (P := l.prog) (w := w) (base := base) G F_law_mixed
  have q_law_mixed : CalD l.prog w K mg base 2 "_law_mixed" 1 [] D_law_mixed := ⟨⟨_, _, _, [], [], o_law_mixed, PySem.W.mg_of X G0 a_law_mixed, k_law_mixed, b_law_mixed, .nil, fun _ _ => .nil⟩⟩
  have o_law_take := ok_law_take (P := l.prog) (w := w) (base := base) G F_law_take q_law_mixed
  have q_law_take : CalD l.prog w K mg base 3 "_law_take" 2 [] D_law_take := ⟨⟨_, _, _, [], [], o_law_take, PySem.W.mg_of X G0 a_law_take, k_law_take, b_law_take, .nil, fun _ _ => .nil⟩⟩
  have o_law_pick := ok_law_pick (P := l.prog) (w := w) (base := base) G F_law_pick q_law_take
  have q_law_pick : CalD l.prog w K mg base 4 "_law_pick" 2 [] D_law_pick := ⟨⟨_, _, _, [], [], o_law_pick, PySem.W.mg_of X G0 a_law_pick, k_law_pick, b_law_pick, .nil, fun _ _ => .nil⟩⟩
  have o_law_odd := ok_law_odd (P := l.prog) (w := w) (base := base) G F_law_odd q_law_pick
  have q_law_odd : CalD l.prog w K mg base 5 "_law_odd" 1 [] D_law_odd := ⟨⟨_, _, _, [], [], o_law_odd, PySem.W.mg_of X G0 a_law_odd, k_law_odd, b_law_odd, .nil, fun _ _ => .nil⟩⟩
  have e2 := l_law
  exact ok_law G F_law o_law_begun (PySem.W.mg_of X G0 a_law_begun) k_law_begun b_law_begun sm qx_k_BadText qx_k_BadLevel qx_k_BadRow qx_BadSet qx_k_BadNumber qx_BadText qx_k_BadLog qx_NoProduct qx_k_NotKept qx_k_TooMany qx_BadLevel qx_k_BadWeight qx_k_NoPlace qx_BadRow qx_k_BadDependence qx_k_BadSet qx_k_BadColumns qx_BadNumber q_law_kinds q_law_odd
end KL

end sec_Asm
section sec_EV
set_option maxRecDepth 100000
set_option maxHeartbeats 5000000
/-! EV: running denotations by plain rules. -/
namespace FD
open PySem L2
local instance tl0 : Tabl := { T := [] }
def R {α : Type} (f : M α) (ρ : Env) (w : W) (Q : α → Env → W → Prop) : Prop := ∃ a ρ' w', f ρ w = some (a, ρ', w') ∧ Q a ρ' w'
section
variable {α β : Type} {f : M α} {ρ : Env} {w : W} {d d1 d2 : D} {i : Nat} {r r1 r2 : RV}
theorem R.mono {Q Q' : α → Env → W → Prop} (h : R f ρ w Q) (k : ∀ a ρ' w', Q a ρ' w' → Q' a ρ' w') : R f ρ w Q' := let ⟨a, ρ', w', e, q⟩ := h; ⟨a, ρ', w', e, k _ _ _ q⟩
theorem R_some {a : α} {ρ' : Env} {w' : W} {Q : α → Env → W → Prop} (h : f ρ w = some (a, ρ', w')) : R f ρ w Q ↔ Q a ρ' w' :=
  ⟨fun ⟨_, _, _, e, q⟩ => by rw [h] at e; cases e; exact q, fun q => ⟨_, _, _, h, q⟩⟩
@[simp] theorem R_pure {a : α} {Q : α → Env → W → Prop} : R (pureM a) ρ w Q ↔ Q a ρ w := R_some rfl
@[simp] theorem R_bind {k : α → M β} {Q : β → Env → W → Prop} : R (bindM f k) ρ w Q ↔ R f ρ w fun a ρ' w' => R (k a) ρ' w' Q := by
  constructor
  · rintro ⟨b, ρ', w', e, q⟩
    obtain ⟨a, ρ1, w1, e1, e2⟩ := bindM_some e
    exact ⟨a, ρ1, w1, e1, b, ρ', w', e2, q⟩
  · rintro ⟨a, ρ1, w1, e1, b, ρ', w', e2, q⟩
    refine ⟨b, ρ', w', ?_, q⟩
    unfold bindM
    rw [e1]
    exact e2
@[simp] theorem R_if {b : Prop} [Decidable b] {f g : M α} {Q : α → Env → W → Prop} : R (if b then f else g) ρ w Q ↔ if b then R f ρ w Q else R g ρ w Q := by
  split <;> exact Iff.rfl
theorem R_var {Q : RV → Env → W → Prop} (h : ρ[i]? = some (some (.val d))) : R (varM i) ρ w Q ↔ Q (.sh d) ρ w := R_some (by unfold varM; rw [h])
theorem R_own {Q : RV → Env → W → Prop} (h : ρ[i]? = some (some (.own d))) : R (varM i) ρ w Q ↔ Q (.ow i) ρ w := R_some (by unfold varM; rw [h])
@[simp] theorem R_lift2 {g : D → D → Option RV} {Q : RV → Env → W → Prop} : R (lift2 g (.sh d1) (.sh d2)) ρ w Q ↔ ∃ r, g d1 d2 = some r ∧ Q r ρ w := by
  constructor
  · rintro ⟨a, ρ', w', e, q⟩
    obtain ⟨a1, a2, r, p1, p2, eg, ez⟩ := lift2_some e
    cases p1
    cases p2
    cases ez
    exact ⟨_, eg, q⟩
  · rintro ⟨r, eg, q⟩
    exact ⟨r, ρ, w, by simp [lift2, peek, eg], q⟩
theorem R_lift2' {g : D → D → Option RV} {Q : RV → Env → W → Prop} (p1 : peek ρ r1 = some d1) (p2 : peek ρ r2 = some d2) : R (lift2 g r1 r2) ρ w Q ↔ ∃ r, g d1 d2 = some r ∧ Q r ρ w := by
  constructor
  · rintro ⟨a, ρ', w', e, q⟩
    obtain ⟨a1, a2, r, q1, q2, eg, ez⟩ := lift2_some e
    rw [p1] at q1
    rw [p2] at q2
    cases q1
    cases q2
    cases ez
    exact ⟨_, eg, q⟩
  · rintro ⟨r, eg, q⟩
    exact ⟨r, ρ, w, by simp [lift2, p1, p2, eg], q⟩
theorem R_lift1' {g : D → Option RV} {Q : RV → Env → W → Prop} (p1 : peek ρ r1 = some d1) : R (lift1 g r1) ρ w Q ↔ ∃ r, g d1 = some r ∧ Q r ρ w := by
  constructor
  · rintro ⟨a, ρ', w', e, q⟩
    obtain ⟨a1, r, q1, eg, ez⟩ := lift1_some e
    rw [p1] at q1
    cases q1
    cases ez
    exact ⟨_, eg, q⟩
  · rintro ⟨r, eg, q⟩
    exact ⟨r, ρ, w, by simp [lift1, p1, eg], q⟩
@[simp] theorem R_lift1 {g : D → Option RV} {Q : RV → Env → W → Prop} : R (lift1 g (.sh d1)) ρ w Q ↔ ∃ r, g d1 = some r ∧ Q r ρ w := R_lift1' rfl
theorem R_liftN {g : List D → Option RV} {rs : List RV} {ds : List D} {Q : RV → Env → W → Prop} (p1 : peeks ρ rs = some ds) : R (liftN g rs) ρ w Q ↔ ∃ r, g ds = some r ∧ Q r ρ w := by
  constructor
  · rintro ⟨a, ρ', w', e, q⟩
    obtain ⟨a1, r, q1, eg, ez⟩ := liftN_some e
    rw [p1] at q1
    cases q1
    cases ez
    exact ⟨_, eg, q⟩
  · rintro ⟨r, eg, q⟩
    exact ⟨r, ρ, w, by simp [liftN, p1, eg], q⟩
@[simp] theorem R_bool {f : M RV} {Q : Bool → Env → W → Prop} : R (boolM f) ρ w Q ↔ R f ρ w fun r ρ' w' => ∃ b, r = .sh (.bl b) ∧ Q b ρ' w' := by
  unfold boolM
  rw [R_bind]
  constructor
  · rintro ⟨r, ρ1, w1, e1, b, ρ', w', e2, q⟩
    obtain ⟨b', er, ez⟩ := boolM_some e2
    obtain ⟨z1, z2, z3⟩ := ez
    exact ⟨r, ρ1, w1, e1, _, er, q⟩
  · rintro ⟨r, ρ1, w1, e1, b, rfl, q⟩
    exact ⟨_, ρ1, w1, e1, b, ρ1, w1, rfl, q⟩
@[simp] theorem R_escsh {Q : D → Env → W → Prop} : R (escR (.sh d)) ρ w Q ↔ Q d ρ w := R_some rfl
@[simp] theorem R_escfr {Q : D → Env → W → Prop} : R (escR (.fr d)) ρ w Q ↔ Q d ρ w := R_some rfl
@[simp] theorem R_escn {Q : List D → Env → W → Prop} : R (escAll []) ρ w Q ↔ Q [] ρ w := R_some rfl
@[simp] theorem R_escc {rs : List RV} {Q : List D → Env → W → Prop} : R (escAll (r :: rs)) ρ w Q ↔ R (escR r) ρ w fun d ρ' w' => R (escAll rs) ρ' w' fun ds ρ2 w2 => Q (d :: ds) ρ2 w2 := by
  show R (bindM (escR r) fun d => bindM (escAll rs) fun ds => pureM (d :: ds)) ρ w Q ↔ _
  simp
@[simp] theorem R_setM {s : Slot} {Q : Unit → Env → W → Prop} : R (setM i s) ρ w Q ↔ Q () (ρ.set i (some s)) w := R_some rfl
@[simp] theorem R_asgfr {Q : Unit → Env → W → Prop} : R (asgM i (.fr d)) ρ w Q ↔ Q () (ρ.set i (some (.own d))) w := R_some rfl
@[simp] theorem R_asgsh {Q : Unit → Env → W → Prop} : R (asgM i (.sh d)) ρ w Q ↔ Q () (ρ.set i (some (.val d))) w := R_some rfl
@[simp] theorem R_drI {g : W → Int} {fo : M RV} {Q : RV → Env → W → Prop} : R (drI g fo) ρ w Q ↔ R fo ρ w fun r ρ' w' => r = .sh .draw ∧ Q (.sh (.int (g w'))) ρ' w' := by
  unfold drI
  rw [R_bind]
  constructor
  · rintro ⟨r, ρ1, w1, e1, b, ρ', w', e2, q⟩
    split at e2
    · cases e2
      exact ⟨_, ρ1, w1, e1, rfl, q⟩
    · cases e2
  · rintro ⟨r, ρ1, w1, e1, rfl, q⟩
    exact ⟨_, ρ1, w1, e1, _, ρ1, w1, rfl, q⟩
def Ran {β : Type} (o : Option (β × W)) (Q : β → W → Prop) : Prop := ∃ r w', o = some (r, w') ∧ Q r w'
@[simp] theorem Ran_some {β : Type} {a : β} {Q : β → W → Prop} : Ran (some (a, w)) Q ↔ Q a w := ⟨fun ⟨_, _, e, q⟩ => by cases e; exact q, fun q => ⟨_, _, rfl, q⟩⟩
theorem Ran.mono {β : Type} {o : Option (β × W)} {Q Q' : β → W → Prop} (h : Ran o Q) (k : ∀ a w', Q a w' → Q' a w') : Ran o Q' := let ⟨a, w', e, q⟩ := h; ⟨a, w', e, k _ _ q⟩
@[simp] theorem R_runD {den : List D → W → Option (RV × W)} {ds : List D} {Q : RV → Env → W → Prop} : R (runD den ds) ρ w Q ↔ Ran (den ds w) fun r w' => Q r ρ w' := by
  constructor
  · rintro ⟨a, ρ', w', e, q⟩
    obtain ⟨r, w2, e2, ez⟩ := runD_some e
    cases ez
    exact ⟨_, _, e2, q⟩
  · rintro ⟨r, w', e, q⟩
    exact ⟨r, ρ, w', by simp [runD, e], q⟩
/-- a def's denotation -/
theorem D_run {n : Nat} {body : M Fl} {ds : List D} {Q : RV → W → Prop} (h : R body (startE n ds) w fun fl ρ' w' => ∃ r', (match fl with | .ret r => outR ρ' r = some r' | .nx => r' = .sh .non | _ => False) ∧ Q r' w') : Ran (denB n body ds w) Q := by
  obtain ⟨fl, ρ', w', e, r', hr, q⟩ := h
  refine ⟨r', w', ?_, q⟩
  unfold denB
  rw [e]
  cases fl with
  | ret r =>
    have hr : outR ρ' r = some r' := hr
    simp [endB, hr]
  | nx =>
    have hr : r' = .sh .non := hr
    rw [hr]
    rfl
  | bk => exact hr.elim
  | ct => exact hr.elim
@[simp] theorem R_seq {f g : M Fl} {Q : Fl → Env → W → Prop} : R (seqM f g) ρ w Q ↔ R f ρ w fun fl ρ' w' => match fl with
    | .nx => R g ρ' w' Q
    | fl => Q fl ρ' w' := by
  unfold seqM
  rw [R_bind]
  constructor
  · intro h
    refine h.mono fun fl ρ' w' q => ?_
    cases fl with
    | nx => exact q
    | ret r => exact R_pure.mp q
    | bk => exact R_pure.mp q
    | ct => exact R_pure.mp q
  · intro h
    refine h.mono fun fl ρ' w' q => ?_
    cases fl with
    | nx => exact q
    | ret r => exact R_pure.mpr q
    | bk => exact R_pure.mpr q
    | ct => exact R_pure.mpr q
theorem eqD_int (a b : Int) : eqD (.int a) (.int b) = some (.sh (.bl (a == b))) := by
  simp [eqD, cmpD, toPy, SeqAt.shaped, PyData.canLay0, PyData.depth, PyData.eqv]
@[simp] theorem R_drT {g : W → Bool} {fo : M RV} {Q : Bool → Env → W → Prop} : R (drT g fo) ρ w Q ↔ R fo ρ w fun r ρ' w' => r = .sh .draw ∧ Q (g w') ρ' w' := by
  unfold drT
  rw [R_bind]
  constructor
  · rintro ⟨r, ρ1, w1, e1, b, ρ', w', e2, q⟩
    split at e2
    · cases e2
      exact ⟨_, ρ1, w1, e1, rfl, q⟩
    · cases e2
  · rintro ⟨r, ρ1, w1, e1, rfl, q⟩
    exact ⟨_, ρ1, w1, e1, _, ρ1, w1, rfl, q⟩
@[simp] theorem R_drSet {g : W → Int → W} {fv fo : M RV} {Q : Fl → Env → W → Prop} : R (drSet g fv fo) ρ w Q ↔ R fv ρ w fun r1 ρ1 w1 => R fo ρ1 w1 fun r ρ' w' => ∃ i, r1 = .sh (.int i) ∧ r = .sh .draw ∧ Q .nx ρ' (g w' i) := by
  unfold drSet
  rw [R_bind]
  constructor
  · rintro ⟨r1, ρ1, w1, e1, q⟩
    rw [R_bind] at q
    obtain ⟨r, ρ2, w2, e2, b, ρ', w', e3, q⟩ := q
    refine ⟨r1, ρ1, w1, e1, r, ρ2, w2, e2, ?_⟩
    split at e3
    · cases e3
      exact ⟨_, rfl, rfl, q⟩
    · cases e3
  · rintro ⟨r1, ρ1, w1, e1, r, ρ2, w2, e2, i, rfl, rfl, q⟩
    refine ⟨_, ρ1, w1, e1, ?_⟩
    exact R_bind.mpr ⟨_, ρ2, w2, e2, _, _, _, rfl, q⟩
theorem R_drPop {fo : M RV} {Q : RV → Env → W → Prop} (h : R fo ρ w fun r ρ' w' => r = .sh .draw ∧ ∃ x xs, w'.wide = x :: xs ∧ xs.length < 1000000 ∧ Q (.sh (.int x)) ρ' { w' with wide := xs }) : R (drPop fo) ρ w Q := by
  obtain ⟨r, ρ', w', e, rfl, x, xs, e1, e2, q⟩ := h
  refine ⟨_, ρ', _, ?_, q⟩
  unfold drPop bindM
  rw [e]
  simp [e1, e2]
theorem R_forL {g : D → M Unit} {body : M Fl} {Q : Fl → Env → W → Prop} (Inv : List D → Env → W → Prop) (step : ∀ d ds ρ w, Inv (d :: ds) ρ w → R (g d) ρ w fun _ ρ1 w1 => R body ρ1 w1 fun fl ρ2 w2 => match fl with
    | .nx => Inv ds ρ2 w2
    | .ct => Inv ds ρ2 w2
    | .bk => Q .nx ρ2 w2
    | .ret r => Q (.ret r) ρ2 w2) (fin : ∀ ρ w, Inv [] ρ w → Q .nx ρ w) : ∀ (ds : List D) (ρ : Env) (w : W), Inv ds ρ w → R (forL g body ds) ρ w Q
  | [], ρ, w, h => R_pure.mpr (fin ρ w h)
  | d :: ds, ρ, w, h => by
    show R (bindM (g d) fun _ => bindM body fun fl => match fl with
      | .nx => forL g body ds
      | .ct => forL g body ds
      | .bk => pureM .nx
      | .ret r => pureM (.ret r)) ρ w Q
    rw [R_bind]
    refine (step d ds ρ w h).mono fun _ ρ1 w1 q => ?_
    rw [R_bind]
    refine q.mono fun fl ρ2 w2 q => ?_
    cases fl with
    | nx => exact R_forL Inv step fin ds ρ2 w2 q
    | ct => exact R_forL Inv step fin ds ρ2 w2 q
    | bk => exact R_pure.mpr q
    | ret r => exact R_pure.mpr q
@[simp] theorem R_for {fi : M (List D)} {g : D → M Unit} {body : M Fl} {Q : Fl → Env → W → Prop} : R (forM fi g body) ρ w Q ↔ R fi ρ w fun ds ρ' w' => R (forL g body ds) ρ' w' Q := by
  unfold forM
  exact R_bind
@[simp] theorem R_gName {Q : Unit → Env → W → Prop} : R (gNameM i d) ρ w Q ↔ Q () (ρ.set i (some (.val d))) w := R_some rfl
@[simp] theorem R_drC {fo : M RV} {Q : List D → Env → W → Prop} : R (drC fo) ρ w Q ↔ R fo ρ w fun r ρ' w' => r = .sh .draw ∧ Q (w'.cells.map D.int) ρ' w' := by
  unfold drC
  rw [R_bind]
  constructor
  · rintro ⟨r, ρ1, w1, e1, b, ρ', w', e2, q⟩
    split at e2
    · cases e2
      exact ⟨_, ρ1, w1, e1, rfl, q⟩
    · cases e2
  · rintro ⟨r, ρ1, w1, e1, rfl, q⟩
    exact ⟨_, ρ1, w1, e1, _, ρ1, w1, rfl, q⟩
theorem R_iterF {ds : List D} {Q : List D → Env → W → Prop} (h : iterD d = some ds) : R (iterM (.fr d)) ρ w Q ↔ Q ds ρ w := R_some (by unfold iterM bindM; simp [escR, pureM, h])
theorem lg {i : Int} {n : Nat} (h0 : 0 ≤ i) (h : i < 2 ^ n) (hn : 0 < n) : i.natAbs.log2 < n := by
  rcases Nat.eq_zero_or_pos i.natAbs with z | z
  · rw [z]
    simpa using hn
  · refine (Nat.log2_lt (by omega)).mpr ?_
    have : (i.natAbs : Int) < 2 ^ n := by rw [Int.natAbs_of_nonneg h0]; exact h
    exact_mod_cast this
@[simp] theorem R_offsh {Q : RV → Env → W → Prop} : R (offR (.sh d)) ρ w Q ↔ Q (.sh d) ρ w := R_some rfl
@[simp] theorem R_offfr {Q : RV → Env → W → Prop} : R (offR (.fr d)) ρ w Q ↔ Q (.fr d) ρ w := R_some rfl
variable {fa fb : M RV} {ta tb : M Bool}
@[simp] theorem R_op2 {g : D → D → Option RV} {Q : RV → Env → W → Prop} : R (op2M g fa fb) ρ w Q ↔ R fa ρ w fun r1 ρ1 w1 => R fb ρ1 w1 fun r2 ρ2 w2 => R (lift2 g r1 r2) ρ2 w2 Q := by
  unfold op2M
  simp
@[simp] theorem R_op1 {g : D → Option RV} {Q : RV → Env → W → Prop} : R (op1M g fa) ρ w Q ↔ R fa ρ w fun r1 ρ1 w1 => R (lift1 g r1) ρ1 w1 Q := by
  unfold op1M
  simp
@[simp] theorem R_bM {g : List D → Option RV} {fs : M (List RV)} {Q : RV → Env → W → Prop} : R (bM g fs) ρ w Q ↔ R fs ρ w fun rs ρ1 w1 => R (liftN g rs) ρ1 w1 Q := by
  unfold bM
  simp
@[simp] theorem R_consA {fs : M (List RV)} {Q : List RV → Env → W → Prop} : R (consA fa fs) ρ w Q ↔ R fa ρ w fun r ρ1 w1 => R fs ρ1 w1 fun rs ρ2 w2 => Q (r :: rs) ρ2 w2 := by
  unfold consA
  simp
@[simp] theorem R_ifM {f g : M α} {Q : α → Env → W → Prop} : R (ifM ta f g) ρ w Q ↔ R ta ρ w fun b ρ1 w1 => if b = true then R f ρ1 w1 Q else R g ρ1 w1 Q := by
  unfold ifM
  simp
@[simp] theorem R_nxM {m : M Unit} {Q : Fl → Env → W → Prop} : R (nxM m) ρ w Q ↔ R m ρ w fun _ ρ1 w1 => Q .nx ρ1 w1 := by
  unfold nxM
  simp
@[simp] theorem R_tupM {fs : M (List RV)} {Q : RV → Env → W → Prop} : R (tupM fs) ρ w Q ↔ R fs ρ w fun rs ρ1 w1 => R (escAll rs) ρ1 w1 fun ds ρ2 w2 => Q (.sh (.tup ds)) ρ2 w2 := by
  unfold tupM
  simp
@[simp] theorem R_lstM {fs : M (List RV)} {Q : RV → Env → W → Prop} : R (lstM fs) ρ w Q ↔ R fs ρ w fun rs ρ1 w1 => R (escAll rs) ρ1 w1 fun ds ρ2 w2 => Q (.fr (.lst ds)) ρ2 w2 := by
  unfold lstM
  simp
@[simp] theorem R_callM {den : List D → W → Option (RV × W)} {dd : List D} {fs : M (List RV)} {Q : RV → Env → W → Prop} : R (callM den dd fs) ρ w Q ↔ R fs ρ w fun rs ρ1 w1 => R (escAll rs) ρ1 w1 fun ds ρ2 w2 => Ran (den (ds ++ dd) w2) fun r w' => Q r ρ2 w' := by
  unfold callM
  simp
@[simp] theorem R_andT {Q : Bool → Env → W → Prop} : R (andT ta tb) ρ w Q ↔ R ta ρ w fun b ρ1 w1 => if b = true then R tb ρ1 w1 Q else Q false ρ1 w1 := by
  unfold andT
  simp
@[simp] theorem R_orT {Q : Bool → Env → W → Prop} : R (orT ta tb) ρ w Q ↔ R ta ρ w fun b ρ1 w1 => if b = true then Q true ρ1 w1 else R tb ρ1 w1 Q := by
  unfold orT
  simp
@[simp] theorem R_notT {Q : Bool → Env → W → Prop} : R (notT ta) ρ w Q ↔ R ta ρ w fun b ρ1 w1 => Q (!b) ρ1 w1 := by
  unfold notT
  simp
@[simp] theorem R_pend {fs : M (List RV)} {Q : List RV → Env → W → Prop} : R (pend1 fa fs) ρ w Q ↔ R fa ρ w fun r ρ1 w1 => R (offR r) ρ1 w1 fun r' ρ2 w2 => R fs ρ2 w2 fun rs ρ3 w3 => Q (r' :: rs) ρ3 w3 := by
  unfold pend1
  simp
@[simp] theorem R_parn {Q : Unit → Env → W → Prop} : R (parM [] []) ρ w Q ↔ Q () ρ w := R_pure
@[simp] theorem R_parsh {is : List Nat} {rs : List RV} {Q : Unit → Env → W → Prop} : R (parM (i :: is) (.sh d :: rs)) ρ w Q ↔ R (parM is rs) (ρ.set i (some (.val d))) w Q := by
  show R (bindM (setM i (.val d)) fun _ => parM is rs) ρ w Q ↔ _
  simp
@[simp] theorem R_parfr {is : List Nat} {rs : List RV} {Q : Unit → Env → W → Prop} : R (parM (i :: is) (.fr d :: rs)) ρ w Q ↔ R (parM is rs) (ρ.set i (some (.own d))) w Q := by
  show R (bindM (setM i (.own d)) fun _ => parM is rs) ρ w Q ↔ _
  simp
end
end FD

end sec_EV
section sec_EV2
set_option maxRecDepth 100000
set_option maxHeartbeats 5000000
/-! EV2: more rules for running denotations; texts as lists of code points. -/
namespace FD
open PySem L2
local instance tl1 : Tabl := { T := [] }
section
variable {α β : Type} {f : M α} {ρ : Env} {w : W} {d d1 d2 : D} {i : Nat} {r r1 r2 : RV} {fa fb fo fe : M RV} {ta tb : M Bool}
theorem R_escow {Q : D → Env → W → Prop} (h : ρ[i]? = some (some (.own d))) : R (escR (.ow i)) ρ w Q ↔ Q d (ρ.set i (some (.val d))) w := R_some (by unfold escR; simp [h])
@[simp] theorem R_strM {g : Str → D → Option RV} {Q : RV → Env → W → Prop} : R (strM g fo fe) ρ w Q ↔ R fo ρ w fun r ρ1 w1 => ∃ s, r = .sh (.str s) ∧ R fe ρ1 w1 fun r2 ρ2 w2 => R (lift1 (g s) r2) ρ2 w2 Q := by
  unfold strM
  rw [R_bind]
  constructor
  · rintro ⟨r, ρ1, w1, e1, q⟩
    refine ⟨r, ρ1, w1, e1, ?_⟩
    split at q
    · exact ⟨_, rfl, R_bind.mp q⟩
    · obtain ⟨_, _, _, e, _⟩ := q
      cases e
  · rintro ⟨r, ρ1, w1, e1, s, rfl, q⟩
    exact ⟨_, ρ1, w1, e1, R_bind.mpr q⟩
@[simp] theorem R_ssetM {Q : RV → Env → W → Prop} : R (ssetM fa) ρ w Q ↔ R fa ρ w fun r ρ1 w1 => ∃ x : Str, r = .sh (.str x) ∧ x.cps.size < 4000 ∧ Q (.fr (.lst ((ST.sset x).map D.str))) ρ1 w1 := by
  unfold ssetM
  rw [R_bind]
  constructor
  · rintro ⟨r, ρ1, w1, e1, q⟩
    refine ⟨r, ρ1, w1, e1, ?_⟩
    split at q
    · split at q
      · exact ⟨_, rfl, by assumption, R_pure.mp q⟩
      · obtain ⟨_, _, _, e, _⟩ := q
        cases e
    · obtain ⟨_, _, _, e, _⟩ := q
      cases e
  · rintro ⟨r, ρ1, w1, e1, x, rfl, h, q⟩
    refine ⟨_, ρ1, w1, e1, ?_⟩
    simp only [h, if_true]
    exact R_pure.mpr q
@[simp] theorem R_andM {Q : RV → Env → W → Prop} : R (andM fa fb) ρ w Q ↔ R (boolM fa) ρ w fun b ρ1 w1 => if b = true then R fb ρ1 w1 Q else Q (.sh (.bl false)) ρ1 w1 := by
  unfold andM
  simp
@[simp] theorem R_orM {Q : RV → Env → W → Prop} : R (orM fa fb) ρ w Q ↔ R (boolM fa) ρ w fun b ρ1 w1 => if b = true then Q (.sh (.bl true)) ρ1 w1 else R fb ρ1 w1 Q := by
  unfold orM
  simp
@[simp] theorem R_notM {Q : RV → Env → W → Prop} : R (notM fa) ρ w Q ↔ R (boolM fa) ρ w fun b ρ1 w1 => Q (.sh (.bl (!b))) ρ1 w1 := by
  unfold notM
  simp
@[simp] theorem R_isiM {bt : String → Bool} {ic : List (Str × Bool)} {Q : RV → Env → W → Prop} : R (isiM bt ic fa) ρ w Q ↔ R fa ρ w fun r ρ1 w1 => R (lift1 (fun d => (isiD bt ic d).map fun b => .sh (.bl b)) r) ρ1 w1 Q := by
  unfold isiM
  exact R_op1
@[simp] theorem R_sortM {srt : List Str → List Str} {Q : RV → Env → W → Prop} : R (sortM srt fa) ρ w Q ↔ R fa ρ w fun r ρ1 w1 => R (lift1 (fun d => match textsD d with
  | some xs => if xs.all (fun x => decide (x.length ≤ 1000000)) = true then some (.fr (.lst ((srt xs).map D.str))) else none
  | none => none) r) ρ1 w1 Q := by
  unfold sortM
  exact R_bind
theorem R_lcM {fi : M (List D)} {vs : List Nat} {asg : D → M Unit} {test : M Bool} {elt : M RV} {Q : RV → Env → W → Prop} : R (lcM fi vs asg test elt) ρ w Q ↔ R fi ρ w fun ds ρ1 w1 => (noOwn ρ1 vs = true ∧ ds.length ≤ 1000000) ∧ R (lcL vs asg test elt ds) (wipeE ρ1 vs) w1 fun ys ρ2 w2 => Q (.fr (.lst ys)) (restE ρ1 ρ2 vs) w2 := by
  unfold lcM
  rw [R_bind]
  constructor
  · rintro ⟨ds, ρ1, w1, e1, r, ρ2, w2, e2, q⟩
    refine ⟨ds, ρ1, w1, e1, ?_⟩
    dsimp only at e2
    split at e2
    · rename_i hc
      refine ⟨hc, ?_⟩
      split at e2
      · rename_i e3
        cases e2
        exact ⟨_, _, _, e3, q⟩
      · cases e2
    · cases e2
  · rintro ⟨ds, ρ1, w1, e1, hc, ys, ρ2, w2, e2, q⟩
    refine ⟨ds, ρ1, w1, e1, ⟨_, _, _, ?_, q⟩⟩
    simp [hc, e2]
@[simp] theorem R_lcTurn {asg : D → M Unit} {test : M Bool} {elt : M RV} {Q : Option D → Env → W → Prop} : R (lcTurn asg test elt d) ρ w Q ↔ R (asg d) ρ w fun _ ρ1 w1 => R test ρ1 w1 fun b ρ2 w2 => if b = true then R elt ρ2 w2 fun r ρ3 w3 => R (escR r) ρ3 w3 fun y ρ4 w4 => Q (some y) ρ4 w4 else Q none ρ2 w2 := by
  unfold lcTurn
  simp
theorem R_range {n : Int} {Q : List D → Env → W → Prop} {rs : List RV} (h : peeks ρ rs = some [.int n]) (h1 : -1000000 ≤ n ∧ n ≤ 1000000) : R (rangeM rs) ρ w Q ↔ Q ((List.range n.toNat).map fun (i : Nat) => D.int (i : Int)) ρ w := R_some (by unfold rangeM; simp [h, h1])
@[simp] theorem R_enumM {Q : List D → Env → W → Prop} : R (enumM fe) ρ w Q ↔ R fe ρ w fun r ρ1 w1 => R (escR r) ρ1 w1 fun d ρ2 w2 => ∃ ds, seqD d = some ds ∧ Q (numD 0 ds) ρ2 w2 := by
  unfold enumM
  simp only [R_bind]
  constructor
  · intro h
    refine h.mono fun r ρ1 w1 h => h.mono fun d ρ2 w2 h => ?_
    obtain ⟨a, ρ3, w3, e, q⟩ := h
    split at e
    · rename_i e'
      cases e
      exact ⟨_, e', q⟩
    · cases e
  · intro h
    refine h.mono fun r ρ1 w1 h => h.mono fun d ρ2 w2 h => ?_
    obtain ⟨ds, e, q⟩ := h
    exact ⟨_, _, _, by simp [e], q⟩
@[simp] theorem R_partM {Q : Option Int → Env → W → Prop} : R (partM fa) ρ w Q ↔ R fa ρ w fun r ρ1 w1 => ∃ i, r = .sh (.int i) ∧ Q (some i) ρ1 w1 := by
  unfold partM
  rw [R_bind]
  constructor
  · intro h
    refine h.mono fun r ρ1 w1 h => ?_
    obtain ⟨a, ρ3, w3, e, q⟩ := h
    split at e
    · rename_i e'
      cases e
      unfold asI at e'
      split at e'
      · cases e'
        exact ⟨_, rfl, q⟩
      · cases e'
    · cases e
  · intro h
    refine h.mono fun r ρ1 w1 h => ?_
    obtain ⟨i, rfl, q⟩ := h
    exact ⟨_, _, _, rfl, q⟩
@[simp] theorem R_slM {fl fh : M (Option Int)} {Q : RV → Env → W → Prop} : R (slM fa fl fh) ρ w Q ↔ R fa ρ w fun r1 ρ1 w1 => R fl ρ1 w1 fun lo ρ2 w2 => R fh ρ2 w2 fun hi ρ3 w3 => R (lift1 (fun d => slD d lo hi) r1) ρ3 w3 Q := by
  unfold slM
  simp
@[simp] theorem R_gTup {g : List D → M Unit} {ds : List D} {Q : Unit → Env → W → Prop} : R (gTupM g (.tup ds)) ρ w Q ↔ R (g ds) ρ w Q := Iff.rfl
@[simp] theorem R_gCons {g : D → M Unit} {h : List D → M Unit} {ds : List D} {Q : Unit → Env → W → Prop} : R (gConsM g h (d :: ds)) ρ w Q ↔ R (g d) ρ w fun _ ρ1 w1 => R (h ds) ρ1 w1 Q := R_bind
@[simp] theorem R_gNil {Q : Unit → Env → W → Prop} : R (gNilM []) ρ w Q ↔ Q () ρ w := R_pure
@[simp] theorem R_makM {cn : Str} {den : List D → W → Option (List (Str × D) × W)} {dd : List D} {fs : M (List RV)} {Q : RV → Env → W → Prop} : R (makM cn den dd fs) ρ w Q ↔ R fs ρ w fun rs ρ1 w1 => R (escAll rs) ρ1 w1 fun ds ρ2 w2 => Ran (den (ds ++ dd) w2) fun gs w' => Q (.sh (.ins cn gs)) ρ2 w' := by
  unfold makM
  simp only [R_bind]
  constructor
  · intro h
    refine h.mono fun r ρ1 w1 h => h.mono fun d ρ2 w2 h => ?_
    obtain ⟨a, ρ3, w3, e, q⟩ := h
    dsimp only at e
    split at e
    · rename_i e'
      cases e
      exact ⟨_, _, e', q⟩
    · cases e
  · intro h
    refine h.mono fun r ρ1 w1 h => h.mono fun d ρ2 w2 h => ?_
    obtain ⟨gs, w', e, q⟩ := h
    exact ⟨_, _, _, by simp [e], q⟩
@[simp] theorem R_methM {cn m : Str} {den : List D → W → Option (RV × W)} {dd : List D} {fs : M (List RV)} {Q : RV → Env → W → Prop} : R (methM cn m den dd fo fs) ρ w Q ↔ R fo ρ w fun r ρ1 w1 => R (selfR cn m r) ρ1 w1 fun d ρ2 w2 => R fs ρ2 w2 fun rs ρ3 w3 => R (escAll rs) ρ3 w3 fun ds ρ4 w4 => Ran (den (d :: (ds ++ dd)) w4) fun r w' => Q r ρ4 w' := by
  unfold methM
  simp
theorem R_eqO {cn : Str} {ic : List (Str × Bool)} {den : List D → W → Option (RV × W)} {ne : Bool} {Q : RV → Env → W → Prop} (h : R fa ρ w fun r1 ρ1 w1 => R fb ρ1 w1 fun r2 ρ2 w2 => R (escR r1) ρ2 w2 fun d1 ρ3 w3 => R (escR r2) ρ3 w3 fun d2 ρ4 w4 => ∃ gs, d1 = .ins cn gs ∧ isiD (fun _ => true) ic d2 = some true ∧ Ran (den [.ins cn gs, d2] w4) fun r w' => ∃ b, r = .sh (.bl b) ∧ Q (.sh (.bl (if ne then !b else b))) ρ4 w') : R (eqOM cn ic den ne fa fb) ρ w Q := by
  obtain ⟨r1, ρ1, w1, e1, r2, ρ2, w2, e2, d1, ρ3, w3, e3, d2, ρ4, w4, e4, gs, rfl, hi, r, w', hd, b, rfl, q⟩ := h
  refine ⟨_, _, _, ?_, q⟩
  unfold eqOM
  simp [bindM, e1, e2, e3, e4, escAll, hi, hd, runD, pureM]
end
/-! texts -/
abbrev st (l : List Nat) : Str := ⟨l.toArray⟩
abbrev S (l : List Nat) : D := .str (st l)
end FD

end sec_EV2
section sec_EV3
set_option maxRecDepth 100000
set_option maxHeartbeats 5000000
/-! EV3: plain operations on texts and lists of texts. -/
namespace FD
open PySem L2
local instance tl2 : Tabl := { T := [] }
end FD

end sec_EV3
section sec_EV4
set_option maxRecDepth 100000
set_option maxHeartbeats 5000000
/-! EV4: rules for loops by plain lists; equations for defs. -/
namespace FD
open PySem L2
local instance tl4 : Tabl := { T := [] }
section
variable {α : Type} {ρ : Env} {w : W}
/-- a def that gives one value and leaves the draws -/
theorem D_eq {n : Nat} {body : M Fl} {ds : List D} {r0 : RV} {w0 : W} (h : R body (startE n ds) w fun fl ρ' w' => w' = w0 ∧ match fl with | .ret r => outR ρ' r = some r0 | .nx => r0 = .sh .non | _ => False) : denB n body ds w = some (r0, w0) := by
  obtain ⟨r, w', e, h1, h2⟩ := D_run (Q := fun r w' => r = r0 ∧ w' = w0) (h.mono fun fl ρ' w' q => ⟨r0, by cases fl <;> exact q.2, rfl, q.1⟩)
  rw [e, h1, h2]
theorem R_lcLm {vs : List Nat} {asg : D → M Unit} {test : M Bool} {elt : M RV} {Q : List D → Env → W → Prop} (emb : α → D) (g : α → Option D) (l : List α) (h : ∀ a ∈ l, R (lcTurn asg test elt (emb a)) ρ w fun y ρ' w' => y = g a ∧ wipeE ρ' vs = ρ ∧ w' = w) (q : Q (l.filterMap g) ρ w) : R (lcL vs asg test elt (l.map emb)) ρ w Q := by
  have key : ∀ (l : List α), (∀ d ∈ l, R (lcTurn asg test elt (emb d)) ρ w fun y ρ' w' => y = g d ∧ wipeE ρ' vs = ρ ∧ w' = w) → lcL vs asg test elt (l.map emb) ρ w = some (l.filterMap g, ρ, w) := by
    intro ds
    induction ds with
    | nil => intro _; rfl
    | cons d ds ih =>
      intro h
      obtain ⟨y, ρ1, w1, e1, rfl, e2, rfl⟩ := h d List.mem_cons_self
      have e3 := ih fun d' h' => h d' (List.mem_cons_of_mem _ h')
      rw [List.map_cons]
      unfold lcL bindM
      rw [e1]
      simp only [wipeM, e2, e3, pureM]
      cases e : g d <;> simp [List.filterMap_cons, e]
  exact ⟨_, _, _, key l h, q⟩
theorem filterMap_some {β : Type} (f : α → β) (l : List α) : l.filterMap (fun a => some (f a)) = l.map f := by
  induction l with
  | nil => rfl
  | cons a l ih => simp
theorem filterMap_if {β : Type} (p : α → Bool) (f : α → β) (l : List α) : l.filterMap (fun a => if p a = true then some (f a) else none) = (l.filter p).map f := by
  induction l with
  | nil => rfl
  | cons a l ih =>
    by_cases h : p a = true
    · simp [h, ih]
    · simp [h, ih]
/-- all are taken -/
theorem R_lcMap {vs : List Nat} {asg : D → M Unit} {test : M Bool} {elt : M RV} {Q : List D → Env → W → Prop} (emb : α → D) (f : α → D) (l : List α) (h : ∀ a ∈ l, R (lcTurn asg test elt (emb a)) ρ w fun y ρ' w' => y = some (f a) ∧ wipeE ρ' vs = ρ ∧ w' = w) (q : Q (l.map f) ρ w) : R (lcL vs asg test elt (l.map emb)) ρ w Q :=
  R_lcLm emb (fun a => some (f a)) l h (by rw [filterMap_some]; exact q)
/-- some are taken -/
theorem R_lcFil {vs : List Nat} {asg : D → M Unit} {test : M Bool} {elt : M RV} {Q : List D → Env → W → Prop} (emb : α → D) (p : α → Bool) (f : α → D) (l : List α) (h : ∀ a ∈ l, R (lcTurn asg test elt (emb a)) ρ w fun y ρ' w' => y = (if p a = true then some (f a) else none) ∧ wipeE ρ' vs = ρ ∧ w' = w) (q : Q ((l.filter p).map f) ρ w) : R (lcL vs asg test elt (l.map emb)) ρ w Q :=
  R_lcLm emb (fun a => if p a = true then some (f a) else none) l h (by rw [filterMap_if]; exact q)
theorem R_forLm {g : D → M Unit} {body : M Fl} {Q : Fl → Env → W → Prop} (emb : α → D) (Inv : List α → Env → W → Prop) (step : ∀ d ds ρ w, Inv (d :: ds) ρ w → R (g (emb d)) ρ w fun _ ρ1 w1 => R body ρ1 w1 fun fl ρ2 w2 => match fl with
    | .nx => Inv ds ρ2 w2
    | .ct => Inv ds ρ2 w2
    | .bk => Q .nx ρ2 w2
    | .ret r => Q (.ret r) ρ2 w2) (fin : ∀ ρ w, Inv [] ρ w → Q .nx ρ w) (ds : List α) (ρ : Env) (w : W) (h : Inv ds ρ w) : R (forL g body (ds.map emb)) ρ w Q := by
  refine R_forL (fun l ρ w => ∃ ds, l = ds.map emb ∧ Inv ds ρ w) ?_ ?_ _ _ _ ⟨ds, rfl, h⟩
  · rintro d l ρ w ⟨ds, e, h⟩
    cases ds with
    | nil => cases e
    | cons a ds =>
      cases e
      refine (step a ds ρ w h).mono fun _ ρ1 w1 h => h.mono fun fl ρ2 w2 h => ?_
      cases fl with
      | nx => exact ⟨ds, rfl, h⟩
      | ct => exact ⟨ds, rfl, h⟩
      | bk => exact h
      | ret r => exact h
  · rintro ρ w ⟨ds, e, h⟩
    cases ds with
    | nil => exact fin ρ w h
    | cons a ds => cases e
@[simp] theorem R_iterM {r : RV} {Q : List D → Env → W → Prop} : R (iterM r) ρ w Q ↔ R (escR r) ρ w fun d ρ' w' => ∃ ds, iterD d = some ds ∧ Q ds ρ' w' := by
  unfold iterM
  rw [R_bind]
  constructor
  · intro h
    refine h.mono fun d ρ' w' h => ?_
    obtain ⟨a, ρ2, w2, e, q⟩ := h
    split at e
    · rename_i e2
      cases e
      exact ⟨_, e2, q⟩
    · cases e
  · intro h
    refine h.mono fun d ρ' w' h => ?_
    obtain ⟨ds, e, q⟩ := h
    exact ⟨ds, ρ', w', by simp [e], q⟩
theorem R_lift2g {g : D → D → Option RV} {r1 r2 : RV} {Q : RV → Env → W → Prop} : R (lift2 g r1 r2) ρ w Q ↔ ∃ d1, peek ρ r1 = some d1 ∧ ∃ d2, peek ρ r2 = some d2 ∧ ∃ r, g d1 d2 = some r ∧ Q r ρ w := by
  constructor
  · rintro ⟨a, ρ', w', e, q⟩
    obtain ⟨d1, d2, r, p1, p2, eg, ez⟩ := lift2_some e
    cases ez
    exact ⟨d1, p1, d2, p2, _, eg, q⟩
  · rintro ⟨d1, p1, d2, p2, r, eg, q⟩
    exact (R_lift2' p1 p2).mpr ⟨r, eg, q⟩
theorem R_liftNg {g : List D → Option RV} {rs : List RV} {Q : RV → Env → W → Prop} : R (liftN g rs) ρ w Q ↔ ∃ ds, peeks ρ rs = some ds ∧ ∃ r, g ds = some r ∧ Q r ρ w := by
  constructor
  · rintro ⟨a, ρ', w', e, q⟩
    obtain ⟨ds, r, p1, eg, ez⟩ := liftN_some e
    cases ez
    exact ⟨ds, p1, _, eg, q⟩
  · rintro ⟨ds, p1, r, eg, q⟩
    exact (R_liftN p1).mpr ⟨r, eg, q⟩
def PopQ (i : Nat) (Q : RV → Env → W → Prop) (r : RV) (ρ1 : Env) (w1 : W) : Prop := ∃ k ds d, r = .sh (.int k) ∧ ownL ρ1 i = some ds ∧ (0 ≤ k ∧ k < ds.length ∧ ds.length < 1000000) ∧ ds[k.toNat]? = some d ∧ Q (.sh d) (ρ1.set i (some (.own (.lst (ds.eraseIdx k.toNat))))) w1
theorem PopQ.mk {i : Nat} {Q : RV → Env → W → Prop} {k : Nat} {ds : List D} (e : ownL ρ i = some ds) (h : k < ds.length) (h2 : ds.length < 1000000) (q : Q (.sh ds[k]) (ρ.set i (some (.own (.lst (ds.eraseIdx k))))) w) : PopQ i Q (.sh (.int (k : Int))) ρ w :=
  ⟨k, ds, ds[k], rfl, e, ⟨by omega, by omega, h2⟩, by simp [h], by simpa using q⟩
@[simp] theorem R_eqOM {cn : Str} {ic : List (Str × Bool)} {den : List D → W → Option (RV × W)} {ne : Bool} {fa fb : M RV} {Q : RV → Env → W → Prop} : R (eqOM cn ic den ne fa fb) ρ w Q ↔ R fa ρ w fun r1 ρ1 w1 => R fb ρ1 w1 fun r2 ρ2 w2 => R (escR r1) ρ2 w2 fun d1 ρ3 w3 => R (escR r2) ρ3 w3 fun d2 ρ4 w4 => (∃ gs, d1 = .ins cn gs) ∧ isiD (fun _ => true) ic d2 = some true ∧ Ran (den [d1, d2] w4) fun r w' => ∃ b, r = .sh (.bl b) ∧ Q (.sh (.bl (if ne then !b else b))) ρ4 w' := by
  constructor
  · rintro ⟨a, ρ', w', e, q⟩
    unfold eqOM at e
    obtain ⟨r1, ρ1, w1, e1, f1⟩ := bindM_some e
    obtain ⟨r2, ρ2, w2, e2, f2⟩ := bindM_some f1
    obtain ⟨ds, ρ3, w3, e3, f3⟩ := bindM_some f2
    obtain ⟨d1, ρ4, w4, e4, e5⟩ := bindM_some e3
    obtain ⟨ds', ρ5, w5, e6, e7⟩ := bindM_some e5
    obtain ⟨d2, ρ6, w6, e8, e9⟩ := bindM_some e6
    cases e9
    cases e7
    clear e f1 f2
    refine ⟨r1, ρ1, w1, e1, r2, ρ2, w2, e2, d1, ρ4, w4, e4, d2, _, _, e8, ?_⟩
    cases d1 with
    | ins c' gs =>
      dsimp only at f3
      by_cases hc : c' = cn ∧ isiD (fun _ => true) ic d2 = some true
      · rw [if_pos hc] at f3
        obtain ⟨rfl, hi⟩ := hc
        obtain ⟨r, ρ7, w7, e10, e11⟩ := bindM_some f3
        obtain ⟨r', w8, e12, ez⟩ := runD_some e10
        cases ez
        refine ⟨⟨gs, rfl⟩, hi, _, _, e12, ?_⟩
        split at e11
        · cases e11
          exact ⟨_, rfl, q⟩
        · cases e11
      · rw [if_neg hc] at f3
        cases f3
    | _ => cases f3
  · rintro ⟨r1, ρ1, w1, e1, r2, ρ2, w2, e2, d1, ρ3, w3, e3, d2, ρ4, w4, e4, ⟨gs, rfl⟩, hi, r, w', e5, b, rfl, q⟩
    exact R_eqO ⟨r1, ρ1, w1, e1, r2, ρ2, w2, e2, _, ρ3, w3, e3, d2, ρ4, w4, e4, gs, rfl, hi, _, w', e5, b, rfl, q⟩
theorem R_then {f g : M Fl} {Q : Fl → Env → W → Prop} (P : Env → W → Prop) (h : R f ρ w fun fl ρ' w' => fl = .nx ∧ P ρ' w') (k : ∀ ρ' w', P ρ' w' → R g ρ' w' Q) : R (seqM f g) ρ w Q := by
  rw [R_seq]
  refine h.mono fun fl ρ' w' hp => ?_
  obtain ⟨rfl, hp⟩ := hp
  exact k ρ' w' hp
end
theorem atI_nat {α : Type} (xs : List α) (i : Nat) (h : i < xs.length) : L2.atI xs (i : Int) = some xs[i] := by
  unfold L2.atI L2.ixN
  simp [h]
end FD

end sec_EV4
section sec_P1
set_option maxRecDepth 100000
set_option maxHeartbeats 5000000
/-! P1: the draws, plainly. -/
namespace KL
open PySem L2 FD

abbrev vi (i : Int) : Option Slot := some (.val (.int i))
abbrev vd : Option Slot := some (.val .draw)
theorem mulD_int {a b : Int} (h : a.natAbs.log2 + b.natAbs.log2 < 1000000) : mulD (.int a) (.int b) = some (.sh (.int (a * b))) := by simp [mulD, h]
theorem inner (t f p : Int) (hp : 0 < p) (hp2 : p < 2 ^ 31) (ht : 0 ≤ t) (ht2 : t < 2 ^ 40) {Q : Fl → FD.Env → W → Prop} {w : W} (hq : ∀ b x, 0 ≤ b → b < 2 ^ 60 → Q .nx [vd, vi t, vi f, vi p, vi b, x] w) :
    ∀ (cs : List Int) (b : Int) (x : Option Slot), (∀ c ∈ cs, 0 ≤ c ∧ c < 2 ^ 31) → 0 ≤ b → b < 2 ^ 60 →
    R (forL (gNameM 5) (setM' 4 (op2M (intD modI) (bM intFD (consA (op2M addD (op2M addD (op2M mulD (varM 4) (pureM (.sh (.int 48271)))) (varM 5)) (varM 1)) (pureM []))) (varM 3))) (cs.map D.int)) [vd, vi t, vi f, vi p, vi b, x] w Q := by
  intro cs b x hcs hb hb2
  refine R_forL (fun ds ρ w' => w' = w ∧ ∃ b x, ∃ cs : List Int, ds = cs.map D.int ∧ (∀ c ∈ cs, 0 ≤ c ∧ c < 2 ^ 31) ∧ 0 ≤ b ∧ b < 2 ^ 60 ∧ ρ = [vd, vi t, vi f, vi p, vi b, x]) ?_ ?_ _ _ _ ⟨rfl, b, x, cs, rfl, hcs, hb, hb2, rfl⟩
  · rintro d ds ρ w' ⟨rfl, b, x, cs, e, hcs, hb, hb2, rfl⟩
    cases cs with
    | nil => cases e
    | cons c cs =>
      cases e
      have l1 := lg hb hb2 (by decide)
      have l2 : (48271 : Int).natAbs.log2 = 15 := by decide
      have hm : mulD (.int b) (.int 48271) = some (.sh (.int (b * 48271))) := mulD_int (by omega)
      simp [R_var, R_liftN, peeks, peek, intFD, intD, modI, hp, hm, addD]
      have h1 := Int.emod_nonneg (b * 48271 + c + t) (by omega : p ≠ 0)
      have h2 := Int.emod_lt_of_pos (b * 48271 + c + t) hp
      exact ⟨_, _, cs, rfl, fun c' h => by have := hcs c' (List.mem_cons_of_mem _ h); omega, h1, by omega, rfl, rfl⟩
  · rintro ρ w' ⟨rfl, b, x, cs, e, _, hb, hb2, rfl⟩
    exact hq b x hb hb2
structure Ok (w : W) : Prop where
  t0 : 0 ≤ w.turn
  t1 : w.turn < 2 ^ 39
  cs : ∀ c ∈ w.cells, 0 ≤ c ∧ c < 2 ^ 31
theorem fdivI_ok {a b : Int} (h : 0 < b) (h2 : b < 2 ^ 100) : fdivI a b = some (.sh (.int (a / b))) := by
  have l := lg (i := b) (n := 100) (by omega) h2 (by decide)
  simp [fdivI, h]
  omega
theorem pow32 (n : Nat) : (2 : Int) ^ (n + 32) = 2 ^ n * 4294967296 := by
  rw [Int.pow_add]
  rfl
theorem mixed (w : W) (h : Ok w) : Ran (D_law_mixed [.draw] w) fun r w' => ∃ x, r = .sh (.int x) ∧ w' = { w with turn := w.turn + 1 } := by
  refine D_run ?_
  have t0 := h.t0
  have t1 := h.t1
  have l1 : (61441 : Int).natAbs.log2 = 15 := by decide
  have l2 := lg (i := w.turn + 1) (n := 40) (by omega) (by omega) (by decide)
  have hm : mulD (.int 61441) (.int (w.turn + 1)) = some (.sh (.int (61441 * (w.turn + 1)))) := mulD_int (by omega)
  simp [d_law_mixed, R_var, addD, startE, R_iterF, iterD]
  refine R_forL (fun ds ρ w' => w' = { w with turn := w.turn + 1 } ∧ ∃ f x3 x4 x5, ∃ ps : List Int, ds = ps.map D.int ∧ ps.length ≤ 4 ∧ (∀ p ∈ ps, 1000 < p ∧ p < 2 ^ 31) ∧ 0 ≤ f ∧ f < 2 ^ (32 * (4 - ps.length)) ∧ ρ = [vd, vi (w.turn + 1), vi f, x3, x4, x5]) ?_ ?_ _ _ _ ⟨rfl, 0, none, none, none, [2147483629, 2147483587, 2147483579, 2147483563], rfl, by decide, by decide, by decide, by decide, rfl⟩
  · rintro d ds ρ w' ⟨rfl, f, x3, x4, x5, ps, e, hl, hps, hf, hf2, rfl⟩
    cases ps with
    | nil => cases e
    | cons p ps =>
      cases e
      obtain ⟨hp1, hp2⟩ := hps p List.mem_cons_self
      have fd := fdivI_ok (a := p) (b := 19) (by decide) (by decide)
      simp [R_var, intD, hm, fd, addD]
      refine inner _ _ _ (by omega) hp2 (by omega) (by omega) (fun b x hb hb2 => ?_) w.cells _ _ h.cs (by omega) (by omega)
      have pw : powI b 5 = some (.sh (.int (b ^ 5))) := by
        have hb3 : b.natAbs < 18446744073709551616 := by omega
        simp [powI, hb3]
      have lf : f.natAbs.log2 < 129 := lg hf (Int.lt_of_lt_of_le hf2 (by
        have : 32 * (4 - (p :: ps).length) ≤ 129 := by omega
        exact_mod_cast Nat.pow_le_pow_right (by decide) this)) (by decide)
      have lM : (2147483647 : Int).natAbs.log2 = 30 := by decide
      have hm2 : mulD (.int f) (.int 2147483647) = some (.sh (.int (f * 2147483647))) := mulD_int (by omega)
      have hp0 : 0 < p := by omega
      simp [R_var, R_liftN, peeks, peek, intFD, intD, pw, modI, hp0, hm2, addD]
      have g1 := Int.emod_nonneg (b ^ 5) (by omega : p ≠ 0)
      have g2 := Int.emod_lt_of_pos (b ^ 5) hp0
      have eP : 32 * (4 - ps.length) = 32 * (4 - (p :: ps).length) + 32 := by
        simp only [List.length_cons] at hl ⊢
        omega
      refine ⟨_, _, _, _, ps, rfl, by simp only [List.length_cons] at hl; omega, fun q hq => hps q (List.mem_cons_of_mem _ hq), ?_, ?_, rfl, rfl, rfl, rfl⟩
      · omega
      · rw [eP, pow32]
        generalize (2 : Int) ^ (32 * (4 - (p :: ps).length)) = PP at hf2 ⊢
        omega
  · rintro ρ w' ⟨rfl, f, x3, x4, x5, ps, e, _, _, _, _, rfl⟩
    simp [R_var, outR]
end KL

end sec_P1
section sec_P2
set_option maxRecDepth 100000
set_option maxHeartbeats 5000000
/-! P2: take, pick. -/
namespace KL
open PySem L2 FD
/-- b: how many more draws there is room for -/
structure Okb (b : Nat) (w : W) : Prop where
  t0 : 0 ≤ w.turn
  t1 : w.turn + b < 2 ^ 39
  cs : ∀ c ∈ w.cells, 0 ≤ c ∧ c < 2 ^ 31
  wi : w.wide.length < 1000000
theorem Okb.ok {b : Nat} {w : W} (h : Okb b w) : Ok w := ⟨h.t0, by have := h.t1; omega, h.cs⟩
theorem Okb.mono {b c : Nat} {w : W} (h : Okb b w) (hc : c ≤ b) : Okb c w := ⟨h.t0, by have := h.t1; omega, h.cs, h.wi⟩
theorem R_take {b : Nat} {w : W} {n : Int} {Q : RV → W → Prop} (h : Okb (b + 1) w) (hn : 0 < n) (hn2 : n < 2 ^ 100) (q : ∀ k w', 0 ≤ k → k < n → Okb b w' → Q (.sh (.int k)) w') : Ran (D_law_take [.draw, .int n] w) Q := by
  refine D_run ?_
  have fin : ∀ (x : Int) w', Okb b w' → Q (.sh (.int (x % n))) w' := fun x w' h => q _ _ (Int.emod_nonneg _ (by omega)) (Int.emod_lt_of_pos _ hn) h
  have fd := fun a => fdivI_ok (a := a) hn hn2
  have t0 := h.t0
  have t1 := h.t1
  by_cases hr : w.rest = 0
  · cases hw : w.wide with
    | nil =>
      obtain ⟨r, w', e, x, rfl, rfl⟩ := mixed w h.ok
      simp [d_law_take, startE, R_var, eqD_int, hr, hw, e, R_liftN, peeks, peek, intFD, intD, modI, hn, fd, outR]
      exact fin _ _ ⟨by simp; omega, by simp; omega, h.cs, by simp⟩
    | cons x xs =>
      have hx : xs.length < 1000000 := by
        have := h.wi
        rw [hw] at this
        simp at this
        omega
      simp [d_law_take, startE, R_var, eqD_int, hr, hw]
      refine R_drPop ?_
      simp [R_var]
      refine ⟨x, xs, hw, hx, ?_⟩
      simp [R_var, R_liftN, peeks, peek, intFD, intD, modI, hn, fd, outR]
      exact fin _ _ ⟨h.t0, by simp; omega, h.cs, hx⟩
  · simp [d_law_take, startE, R_var, eqD_int, hr, R_liftN, peeks, peek, intFD, intD, modI, hn, fd, outR]
    exact fin _ _ ⟨h.t0, by simp; omega, h.cs, h.wi⟩
end KL

end sec_P2
section sec_P3
set_option maxRecDepth 100000
set_option maxHeartbeats 5000000
/-! P3: pick. -/
namespace KL
open PySem L2 FD
open ST (Up up_eq setN mem_setN up_setN)
theorem R_pick {b : Nat} {w : W} {l : List D} {Q : RV → W → Prop} (h : Okb (b + 1) w) (hl : l ≠ []) (hl2 : l.length ≤ 1000000) (q : ∀ d w', d ∈ l → Okb b w' → Q (.sh d) w') : Ran (D_law_pick [.draw, .lst l] w) Q := by
  refine D_run ?_
  simp [d_law_pick, startE, R_var, R_liftN, peeks, peek, lenD]
  have : 0 < l.length := List.length_pos_iff.mpr hl
  refine R_take h (by omega) (by omega) fun k w' k0 k1 h' => ?_
  obtain ⟨n, rfl⟩ := Int.eq_ofNat_of_zero_le k0
  have hn : n < l.length := by omega
  simp [ixD, atI_nat l n hn, outR]
  exact q _ _ (List.getElem_mem hn) h'
end KL

end sec_P3
section sec_EQ
set_option maxRecDepth 100000
set_option maxHeartbeats 5000000
/-! EQ: == of data without truth values is equality. -/
namespace FD
open PySem L2
local instance tl7 : Tabl := { T := [] }
/-- data without truth values, at most so deep -/
def NB : Nat → D → Prop
  | _, .non => True
  | _, .int _ => True
  | _, .str x => ∀ c ∈ x.cps.toList, c < 0x110000
  | n + 1, .tup ds => ∀ d ∈ ds, NB n d
  | n + 1, .lst ds => ∀ d ∈ ds, NB n d
  | _, _ => False
theorem NB.up : ∀ {n : Nat} {d : D}, NB n d → NB (n + 1) d
  | 0, .non, _ => by simp [NB]
  | 0, .int _, _ => by simp [NB]
  | 0, .str _, h => by simpa [NB] using h
  | 0, .tup _, h => by simp [NB] at h
  | 0, .lst _, h => by simp [NB] at h
  | n + 1, .non, _ => by simp [NB]
  | n + 1, .int _, _ => by simp [NB]
  | n + 1, .str _, h => by simpa [NB] using h
  | n + 1, .tup ds, h => by
    have h : ∀ d ∈ ds, NB n d := h
    show ∀ d ∈ ds, NB (n + 1) d
    exact fun d hd => (h d hd).up
  | n + 1, .lst ds, h => by
    have h : ∀ d ∈ ds, NB n d := h
    show ∀ d ∈ ds, NB (n + 1) d
    exact fun d hd => (h d hd).up
theorem NB.mono {n m : Nat} {d : D} (h : NB n d) (hm : n ≤ m) : NB m d := by
  induction hm with
  | refl => exact h
  | step _ ih => exact ih.up
theorem toPys_of {n : Nat} {ds : List D} (h : ∀ d ∈ ds, ∃ p, toPy d = some p ∧ p.canLay0 = true ∧ p.depth ≤ n) : ∃ ps, toPys ds = some ps ∧ PyData.canLayAll0 ps = true ∧ PyData.depthAll ps ≤ n := by
  induction ds with
  | nil => exact ⟨[], by simp [toPys], by simp [PyData.canLayAll0], by simp [PyData.depthAll]⟩
  | cons d ds ih =>
    obtain ⟨ps, e1, e2, e3⟩ := ih fun d hd => h d (List.mem_cons_of_mem _ hd)
    obtain ⟨p, f1, f2, f3⟩ := h d List.mem_cons_self
    refine ⟨p :: ps, by simp [toPys, f1, e1], by simp [PyData.canLayAll0, f2, e2], ?_⟩
    simp only [PyData.depthAll]
    omega
theorem NB.py : ∀ {n : Nat} {d : D}, NB n d → ∃ p, toPy d = some p ∧ p.canLay0 = true ∧ p.depth ≤ n
  | n, .non, _ => ⟨.none, by simp [toPy], by simp [PyData.canLay0], by simp [PyData.depth]⟩
  | n, .int i, _ => ⟨.int i, by simp [toPy], by simp [PyData.canLay0], by simp [PyData.depth]⟩
  | n, .str x, h => ⟨.str x, by simp [toPy], by
      have h : ∀ c ∈ x.cps.toList, c < 0x110000 := by cases n <;> exact h
      simp only [PyData.canLay0, PyData.strOk, Array.all_eq_true', decide_eq_true_eq]
      intro c hc
      exact h c (by simpa using hc), by simp [PyData.depth]⟩
  | n + 1, .tup ds, h => by
    have h : ∀ d ∈ ds, NB n d := h
    obtain ⟨ps, e1, e2, e3⟩ := toPys_of (n := n) fun d hd => (h d hd).py
    exact ⟨.tuple ps, by simp [toPy, e1], by simpa [PyData.canLay0] using e2, by simp [PyData.depth]; omega⟩
  | n + 1, .lst ds, h => by
    have h : ∀ d ∈ ds, NB n d := h
    obtain ⟨ps, e1, e2, e3⟩ := toPys_of (n := n) fun d hd => (h d hd).py
    exact ⟨.list ps, by simp [toPy, e1], by simpa [PyData.canLay0] using e2, by simp [PyData.depth]; omega⟩
  | 0, .tup ds, h => by simp [NB] at h
  | 0, .lst ds, h => by simp [NB] at h
  | 0, .bl _, h => by simp [NB] at h
  | 0, .ty _, h => by simp [NB] at h
  | 0, .draw, h => by simp [NB] at h
  | 0, .dic _, h => by simp [NB] at h
  | 0, .ktup _, h => by simp [NB] at h
  | 0, .dit _, h => by simp [NB] at h
  | 0, .fdit _, h => by simp [NB] at h
  | 0, .ins _ _, h => by simp [NB] at h
  | 0, .scr _, h => by simp [NB] at h
  | 0, .exc _ _, h => by simp [NB] at h
  | 0, .lam _ _, h => by simp [NB] at h
  | _ + 1, .bl _, h => by simp [NB] at h
  | _ + 1, .exc _ _, h => by simp [NB] at h
  | _ + 1, .lam _ _, h => by simp [NB] at h
  | _ + 1, .ty _, h => by simp [NB] at h
  | _ + 1, .draw, h => by simp [NB] at h
  | _ + 1, .dic _, h => by simp [NB] at h
  | _ + 1, .ktup _, h => by simp [NB] at h
  | _ + 1, .dit _, h => by simp [NB] at h
  | _ + 1, .fdit _, h => by simp [NB] at h
  | _ + 1, .ins _ _, h => by simp [NB] at h
  | _ + 1, .scr _, h => by simp [NB] at h
theorem eqvAll_iff : ∀ {as bs : List D} {ps qs : List PyData}, (∀ a ∈ as, ∀ b ∈ bs, ∀ p q, toPy a = some p → toPy b = some q → (PyData.eqv p q = true ↔ a = b)) → toPys as = some ps → toPys bs = some qs → (PyData.eqvAll ps qs = true ↔ as = bs)
  | [], [], ps, qs, _, e1, e2 => by
    simp [toPys] at e1 e2
    subst e1
    subst e2
    simp [PyData.eqvAll]
  | [], b :: bs, ps, qs, _, e1, e2 => by
    simp only [toPys] at e1 e2
    cases e1
    split at e2
    · cases q : toPys bs with
      | none => rw [q] at e2; cases e2
      | some _ => rw [q] at e2; cases e2; simp [PyData.eqvAll]
    · cases e2
  | a :: as, [], ps, qs, _, e1, e2 => by
    simp only [toPys] at e1 e2
    cases e2
    split at e1
    · cases q : toPys as with
      | none => rw [q] at e1; cases e1
      | some _ => rw [q] at e1; cases e1; simp [PyData.eqvAll]
    · cases e1
  | a :: as, b :: bs, ps, qs, h, e1, e2 => by
    simp only [toPys] at e1 e2
    split at e1
    · rename_i p hp
      cases q1 : toPys as with
      | none => rw [q1] at e1; cases e1
      | some ps' =>
        rw [q1] at e1
        cases e1
        split at e2
        · rename_i q hq
          cases q2 : toPys bs with
          | none => rw [q2] at e2; cases e2
          | some qs' =>
            rw [q2] at e2
            cases e2
            have i1 := h a List.mem_cons_self b List.mem_cons_self p q hp hq
            have i2 := eqvAll_iff (fun a ha b hb => h a (List.mem_cons_of_mem _ ha) b (List.mem_cons_of_mem _ hb)) q1 q2
            simp only [PyData.eqvAll, Bool.and_eq_true, i1, i2, List.cons.injEq]
        · cases e2
    · cases e1
theorem NB.eqv : ∀ {n : Nat} {a b : D} {p q : PyData}, NB n a → NB n b → toPy a = some p → toPy b = some q → (PyData.eqv p q = true ↔ a = b) := by
  intro n
  induction n with
  | zero =>
    intro a b p q ha hb e1 e2
    cases a <;> simp [NB] at ha <;> cases b <;> simp [NB] at hb <;> simp [toPy] at e1 e2 <;> subst e1 <;> subst e2 <;> simp [PyData.eqv]
  | succ n ih =>
    intro a b p q ha hb e1 e2
    have seq : ∀ (as bs : List D) (ps qs : List PyData), (∀ d ∈ as, NB n d) → (∀ d ∈ bs, NB n d) → toPys as = some ps → toPys bs = some qs → (PyData.eqvAll ps qs = true ↔ as = bs) := fun as bs ps qs ha hb e1 e2 => eqvAll_iff (fun x hx y hy p q ep eq => ih (ha x hx) (hb y hy) ep eq) e1 e2
    cases a with
    | tup as =>
      have ha : ∀ d ∈ as, NB n d := ha
      simp only [toPy] at e1
      cases q1 : toPys as with
      | none => rw [q1] at e1; cases e1
      | some ps =>
        rw [q1] at e1
        cases e1
        cases b with
        | tup bs =>
          have hb : ∀ d ∈ bs, NB n d := hb
          simp only [toPy] at e2
          cases q2 : toPys bs with
          | none => rw [q2] at e2; cases e2
          | some qs =>
            rw [q2] at e2
            cases e2
            simp [PyData.eqv, seq as bs ps qs ha hb q1 q2]
        | lst bs =>
          simp only [toPy] at e2
          cases q2 : toPys bs with
          | none => rw [q2] at e2; cases e2
          | some qs => rw [q2] at e2; cases e2; simp [PyData.eqv]
        | _ => simp [NB] at hb <;> simp [toPy] at e2 <;> subst e2 <;> simp [PyData.eqv]
    | lst as =>
      have ha : ∀ d ∈ as, NB n d := ha
      simp only [toPy] at e1
      cases q1 : toPys as with
      | none => rw [q1] at e1; cases e1
      | some ps =>
        rw [q1] at e1
        cases e1
        cases b with
        | lst bs =>
          have hb : ∀ d ∈ bs, NB n d := hb
          simp only [toPy] at e2
          cases q2 : toPys bs with
          | none => rw [q2] at e2; cases e2
          | some qs =>
            rw [q2] at e2
            cases e2
            simp [PyData.eqv, seq as bs ps qs ha hb q1 q2]
        | tup bs =>
          simp only [toPy] at e2
          cases q2 : toPys bs with
          | none => rw [q2] at e2; cases e2
          | some qs => rw [q2] at e2; cases e2; simp [PyData.eqv]
        | _ => simp [NB] at hb <;> simp [toPy] at e2 <;> subst e2 <;> simp [PyData.eqv]
    | _ =>
      simp [NB] at ha <;> simp [toPy] at e1 <;> subst e1 <;> cases b with
      | tup bs =>
        simp only [toPy] at e2
        cases q2 : toPys bs with
        | none => rw [q2] at e2; cases e2
        | some qs => rw [q2] at e2; cases e2; simp [PyData.eqv]
      | lst bs =>
        simp only [toPy] at e2
        cases q2 : toPys bs with
        | none => rw [q2] at e2; cases e2
        | some qs => rw [q2] at e2; cases e2; simp [PyData.eqv]
      | _ => simp [NB] at hb <;> simp [toPy] at e2 <;> subst e2 <;> simp [PyData.eqv]
open Classical in
theorem cmp_NB {a b : D} (ha : NB 64 a) (hb : NB 64 b) : cmpD a b = some (decide (a = b)) := by
  obtain ⟨p, p1, p2, p3⟩ := ha.py
  obtain ⟨q, q1, q2, q3⟩ := hb.py
  have hp : SeqAt.shaped p = true := by simp [SeqAt.shaped, p2, p3]
  have hq : SeqAt.shaped q = true := by simp [SeqAt.shaped, q2, q3]
  unfold cmpD
  simp only [p1, q1, hp, hq, and_self, if_true]
  congr 1
  rw [Bool.eq_iff_iff, ha.eqv hb p1 q1]
  simp
open Classical in
theorem eqD_NB {a b : D} (ha : NB 64 a) (hb : NB 64 b) : eqD a b = some (.sh (.bl (decide (a = b)))) := by
  simp [eqD, cmp_NB ha hb]
open Classical in
theorem neD_NB {a b : D} (ha : NB 64 a) (hb : NB 64 b) : neD a b = some (.sh (.bl (!decide (a = b)))) := by
  simp [neD, cmp_NB ha hb]
end FD

end sec_EQ
section sec_MA
set_option maxRecDepth 100000
set_option maxHeartbeats 5000000
/-! MA: closures, plainly. -/
namespace KL
open ST (Up up_eq setN mem_setN up_setN)
def U : List Nat := [97, 98, 99, 100, 114]
inductive InCl (cs : List Nat) (ds : List (List Nat × Nat)) (l : List Nat) : Nat → Prop
  | base {c : Nat} : c ∈ l → InCl cs ds l c
  | row {c : Nat} : InCl cs ds l 114 → c ∈ cs → InCl cs ds l c
  | dep {lo : List Nat} {c : Nat} : (lo, c) ∈ ds → (∀ x ∈ lo, InCl cs ds l x) → InCl cs ds l c
section
variable {cs : List Nat} {ds es : List (List Nat × Nat)} {l f : List Nat} {c : Nat}
theorem InCl.mono (h : ∀ p ∈ ds, ∀ m, (∀ x ∈ p.1, InCl cs es m x) → InCl cs es m p.2) (hc : InCl cs ds l c) : InCl cs es l c := by
  induction hc with
  | base h1 => exact .base h1
  | row h1 h2 ih => exact .row ih h2
  | dep h1 h2 ih => exact h _ h1 _ ih
theorem InCl.trans {m : List Nat} (h : ∀ x ∈ m, InCl cs ds l x) (hc : InCl cs ds m c) : InCl cs ds l c := by
  induction hc with
  | base h1 => exact h _ h1
  | row h1 h2 ih => exact .row ih h2
  | dep h1 h2 ih => exact .dep h1 ih
/-- columns, dependences, sets -/
def Col (cs : List Nat) : Prop := cs.Sublist [97, 98, 99, 100] ∧ cs ≠ []
def Set_ (cs l : List Nat) : Prop := l.Sublist (cs ++ [114])
theorem upU : Up U := by decide
theorem Col.sub (h : Col cs) : (cs ++ [114]).Sublist U := by
  have := h.1.append (List.Sublist.refl [114])
  exact this
theorem Col.up (h : Col cs) : Up (cs ++ [114]) := upU.sublist h.sub
theorem Set_.up (h : Col cs) (s : Set_ cs l) : Up l := h.up.sublist s
theorem Set_.len (h : Col cs) (s : Set_ cs l) : l.length ≤ 5 := (s.trans h.sub).length_le
theorem Col.len (h : Col cs) : cs.length ≤ 4 := h.1.length_le
theorem Col.mem (h : Col cs) : ∀ x ∈ cs, x ∈ [97, 98, 99, 100] := fun x hx => h.1.subset hx
noncomputable def cl (cs : List Nat) (ds : List (List Nat × Nat)) (l : List Nat) : List Nat := (cs ++ [114]).filter fun c => @decide (InCl cs ds l c) (Classical.propDecidable _)
end
end KL

end sec_MA
section sec_P12
set_option maxRecDepth 100000
set_option maxHeartbeats 5000000
/-! P12: the start of all draws; a law's run. -/
namespace KL
open PySem L2 FD
open ST (Up up_eq setN mem_setN up_setN)
local instance tl13 : Tabl := { T := [] }
theorem asInts_m {α : Type} (f : α → Int) (l : List α) : asInts (l.map fun a => D.int (f a)) = some (l.map f) := by
  have e : (l.map fun a => D.int (f a)) = (l.map f).map D.int := by simp
  rw [e, asInts_map]
theorem beg_ok {ns : List Int} (h : ns.length ≤ 63) : ∃ wi ci, beg ns = some (wi, ci) ∧ wi.length ≤ 63 ∧ ∀ c ∈ ci, 0 ≤ c ∧ c < 2 ^ 31 := by
  have p18 : powI 10 18 = some (.sh (.int 1000000000000000000)) := by simp [powI]
  have ab : ∀ n : Int, absD [.int n] = some (.sh (.int (n.natAbs : Int))) := fun n => by
    simp only [absD]
    congr 3
    omega
  have h1 : R d1_law_begun (startE 3 [.scr ns]) ⟨[], [], 0, 0⟩ fun fl ρ w => fl = .nx ∧ w = ⟨[], [], 0, 0⟩ ∧ ρ = [some (.val (.scr ns)), some (.own (.lst ((ns.filter fun n => decide (1000000000000000000 ≤ (n.natAbs : Int))).map fun n => D.int (n.natAbs - 1000000000000000000)))), none] := by
    simp [d1_law_begun, startE, R_lcM, R_var, iterD]
    refine ⟨⟨rfl, by omega⟩, R_lcFil D.int (fun n => decide (1000000000000000000 ≤ (n.natAbs : Int))) (fun n => D.int (n.natAbs - 1000000000000000000)) ns (fun n hn => ?_) ?_⟩
    · simp [R_var, wipeE, R_liftN, peeks, peek, ab, intD, p18, i0]
      by_cases hc : (1000000000000000000 : Int) ≤ n.natAbs
      · simp [hc, R_var, R_liftN, peeks, peek, ab, intD, p18, i0]
      · simp [hc]
        omega
    · simp [wipeE, restE]
  have h2 : R d2_law_begun [some (.val (.scr ns)), some (.own (.lst ((ns.filter fun n => decide (1000000000000000000 ≤ (n.natAbs : Int))).map fun n => D.int (n.natAbs - 1000000000000000000)))), none] ⟨[], [], 0, 0⟩ fun r ρ w => r = .fr (.lst (ns.map fun n => D.int ((n.natAbs : Int) % 2147483629))) ∧ ρ = [some (.val (.scr ns)), some (.own (.lst ((ns.filter fun n => decide (1000000000000000000 ≤ (n.natAbs : Int))).map fun n => D.int (n.natAbs - 1000000000000000000)))), none] := by
    simp [d2_law_begun, startE, R_lcM, R_var, iterD]
    refine ⟨⟨rfl, by omega⟩, R_lcMap D.int (fun n => D.int ((n.natAbs : Int) % 2147483629)) ns (fun n hn => ?_) ?_⟩
    · simp [R_var, wipeE, R_liftN, peeks, peek, ab, intD, intFD, modI]
    · simp [wipeE, restE]
  obtain ⟨fl, ρ, w, e1, rfl, rfl, rfl⟩ := h1
  obtain ⟨r, ρ2, w2, e2, rfl, rfl⟩ := h2
  refine ⟨(ns.filter fun n => decide (1000000000000000000 ≤ (n.natAbs : Int))).map fun n => (n.natAbs : Int) - 1000000000000000000, ns.map fun n => (n.natAbs : Int) % 2147483629, ?_, ?_, ?_⟩
  · unfold beg begD
    rw [e1]
    simp only [e2, ownL, List.getElem?_cons_succ, List.getElem?_cons_zero, asInts_m]
  · rw [List.length_map]
    exact Nat.le_trans (List.length_filter_le _ _) h
  · intro c hc
    obtain ⟨n, _, rfl⟩ := List.mem_map.mp hc
    have := Int.emod_nonneg (n.natAbs : Int) (by decide : (2147483629 : Int) ≠ 0)
    have := Int.emod_lt_of_pos (n.natAbs : Int) (by decide : (0 : Int) < 2147483629)
    omega
theorem law_run {n : Nat} {d : M Fl} (h : ∀ ns w, ns.length ≤ 63 → Okb (2 ^ 38) w → R d ((startE n [.scr ns]).set 1 (some (.val .draw))) w fun fl _ _ => fl = .ret (.sh (.bl true))) : ∀ ns : List Int, ns.length ≤ 63 → denL n beg d ns = true := by
  intro ns hns
  obtain ⟨wi, ci, e, h1, h2⟩ := beg_ok hns
  obtain ⟨fl, ρ', w', e2, rfl⟩ := h ns ⟨wi, ci, 0, 0⟩ hns ⟨by simp, by simp, h2, by simp; omega⟩
  unfold denL
  rw [e]
  simp only [e2, endT]
/-- repr of truth values -/
theorem ne_self {s : Str} (h : ∀ c ∈ s.cps.toList, c < 0x110000) : neD (.str s) (.str s) = some (.sh (.bl false)) := by
  rw [neD_NB (a := .str s) (b := .str s) h h]
  simp
end KL

end sec_P12
section sec_EV5
set_option maxRecDepth 100000
set_option maxHeartbeats 5000000
/-! EV5: rules for dicts, zip, properties, alternatives, two-clause comprehensions. -/
namespace FD
open PySem L2
local instance tl5e : Tabl := { T := [] }
/-! association lists with keys that are lists of numbers -/
section
variable {α : Type}
end
section
variable {α β : Type} {ρ : Env} {w : W} {d d1 d2 : D} {i : Nat} {fa fb fk fv fe fo : M RV}
theorem R_alt2 {f g : M α} {Q : α → Env → W → Prop} (n : f ρ w = none) (h : R g ρ w Q) : R (alt f g) ρ w Q := by
  obtain ⟨a, ρ', w', e, q⟩ := h
  exact ⟨a, ρ', w', by simp [alt, n, e], q⟩
@[simp] theorem R_dictM {Q : RV → Env → W → Prop} : R (dictM fo) ρ w Q ↔ R fo ρ w fun r ρ1 w1 => ∃ d, peek ρ1 r = some d ∧ ∃ ps, pairsD d = some ps ∧ Q r ρ1 w1 := by
  unfold dictM
  rw [R_bind]
  constructor <;> intro h <;> refine h.mono fun r ρ1 w1 h => ?_
  · obtain ⟨a, ρ3, w3, e, q⟩ := h
    dsimp only at e
    cases e1 : peek ρ1 r with
    | none => rw [e1] at e; cases e
    | some d =>
      rw [e1] at e
      dsimp only at e
      cases e2 : pairsD d with
      | none => rw [e2] at e; cases e
      | some ps =>
        rw [e2] at e
        cases e
        exact ⟨d, rfl, ps, e2, q⟩
  · obtain ⟨d, e1, ps, e2, q⟩ := h
    exact ⟨_, _, _, by simp [e1, e2], q⟩
@[simp] theorem R_dgetM {Q : RV → Env → W → Prop} : R (dgetM fo fk fe) ρ w Q ↔ R fo ρ w fun r1 ρ1 w1 => R fk ρ1 w1 fun r2 ρ2 w2 => R fe ρ2 w2 fun r3 ρ3 w3 => R (escR r3) ρ3 w3 fun z ρ4 w4 => R (lift2 (fun d k => match pairsD d with
  | some ps => (match keyT k with | some ks => some (.sh ((valT ps ks).getD z)) | none => none)
  | none => none) r1 r2) ρ4 w4 Q := by
  unfold dgetM
  first
  | (simp only [R_bind]; done)
  | (simp only [R_bind]; exact Iff.rfl)
@[simp] theorem R_valsM {Q : RV → Env → W → Prop} : R (valsM fo) ρ w Q ↔ R fo ρ w fun r ρ1 w1 => ∃ d, peek ρ1 r = some d ∧ ∃ ps, pairsD d = some ps ∧ Q (.fr (.lst (ps.map (·.2)))) ρ1 w1 := by
  unfold valsM
  rw [R_bind]
  constructor <;> intro h <;> refine h.mono fun r ρ1 w1 h => ?_
  · obtain ⟨a, ρ3, w3, e, q⟩ := h
    dsimp only at e
    cases e1 : peek ρ1 r with
    | none => rw [e1] at e; cases e
    | some d =>
      rw [e1] at e
      dsimp only at e
      cases e2 : pairsD d with
      | none => rw [e2] at e; cases e
      | some ps =>
        rw [e2] at e
        cases e
        exact ⟨d, rfl, ps, e2, q⟩
  · obtain ⟨d, e1, ps, e2, q⟩ := h
    exact ⟨_, _, _, by simp [e1, e2], q⟩
@[simp] theorem R_propM {cn : Str} {den : List D → W → Option (RV × W)} {Q : RV → Env → W → Prop} : R (propM cn den fo) ρ w Q ↔ R fo ρ w fun r ρ1 w1 => R (escR r) ρ1 w1 fun d ρ2 w2 => (∃ gs, d = .ins cn gs) ∧ Ran (den [d] w2) fun r' w' => Q r' ρ2 w' := by
  unfold propM
  simp only [R_bind]
  constructor <;> intro h <;> refine h.mono fun r ρ1 w1 h => h.mono fun d ρ2 w2 h => ?_
  · cases d with
    | ins c' gs =>
      dsimp only at h
      by_cases hc : c' = cn
      · rw [if_pos hc, R_runD] at h
        exact ⟨⟨gs, by rw [hc]⟩, h⟩
      · rw [if_neg hc] at h
        obtain ⟨_, _, _, e, _⟩ := h
        cases e
    | _ =>
      obtain ⟨_, _, _, e, _⟩ := h
      cases e
  · obtain ⟨⟨gs, rfl⟩, h⟩ := h
    dsimp only
    rw [if_pos rfl, R_runD]
    exact h
@[simp] theorem R_starM {Q : RV → Env → W → Prop} : R (starM fa fb) ρ w Q ↔ R fa ρ w fun r1 ρ1 w1 => R (escR r1) ρ1 w1 fun d1 ρ2 w2 => R fb ρ2 w2 fun r2 ρ3 w3 => R (escR r2) ρ3 w3 fun d2 ρ4 w4 => ∃ xs ys, seqD d1 = some xs ∧ seqD d2 = some ys ∧ xs.length + ys.length ≤ 1000000 ∧ Q (.sh (.tup (xs ++ ys))) ρ4 w4 := by
  unfold starM
  simp only [R_bind]
  constructor <;> intro h <;> refine h.mono fun r ρ1 w1 h => h.mono fun d ρ2 w2 h => h.mono fun r2 ρ3 w3 h => h.mono fun d2 ρ4 w4 h => ?_
  · obtain ⟨a, ρ5, w5, e, q⟩ := h
    dsimp only at e
    split at e
    · rename_i xs ys e1 e2
      split at e
      · rename_i hl
        cases e
        exact ⟨xs, ys, e1, e2, hl, q⟩
      · cases e
    · cases e
  · obtain ⟨xs, ys, e1, e2, hl, q⟩ := h
    exact ⟨_, _, _, by simp [e1, e2, hl], q⟩
@[simp] theorem R_orVM {Q : RV → Env → W → Prop} : R (orVM fa fb) ρ w Q ↔ R fa ρ w fun r ρ1 w1 => ∃ d, r = .sh d ∧ ∃ b, truD d = some b ∧ if b = true then Q (.sh d) ρ1 w1 else R fb ρ1 w1 Q := by
  unfold orVM
  rw [R_bind]
  constructor <;> intro h <;> refine h.mono fun r ρ1 w1 h => ?_
  · cases r with
    | sh d =>
      dsimp only at h
      cases e : truD d with
      | none =>
        rw [e] at h
        obtain ⟨_, _, _, e, _⟩ := h
        cases e
      | some b =>
        rw [e] at h
        cases b with
        | true => exact ⟨d, rfl, true, e, by simpa using h⟩
        | false => exact ⟨d, rfl, false, e, by simpa using h⟩
    | fr d =>
      obtain ⟨_, _, _, e, _⟩ := h
      cases e
    | ow j =>
      obtain ⟨_, _, _, e, _⟩ := h
      cases e
  · obtain ⟨d, rfl, b, e, h⟩ := h
    dsimp only
    rw [e]
    cases b with
    | true => simpa using h
    | false => simpa using h
@[simp] theorem R_dcTurn {asg : D → M Unit} {test : M Bool} {acc : List (D × D)} {Q : List (D × D) → Env → W → Prop} : R (dcTurn asg test fk fv d acc) ρ w Q ↔ R (asg d) ρ w fun _ ρ1 w1 => R test ρ1 w1 fun b ρ2 w2 => if b = true then R fk ρ2 w2 fun r1 ρ3 w3 => R fv ρ3 w3 fun r2 ρ4 w4 => R (escR r2) ρ4 w4 fun z ρ5 w5 => ∃ kd ks, peek ρ5 r1 = some kd ∧ keyT kd = some ks ∧ Q (putT acc ks z) ρ5 w5 else Q acc ρ2 w2 := by
  unfold dcTurn
  simp only [R_bind, R_if, R_pure]
  constructor <;> intro h <;> refine h.mono fun _ ρ1 w1 h => h.mono fun b ρ2 w2 h => ?_
  · cases b with
    | false => simpa using h
    | true =>
      simp only [if_true] at h ⊢
      refine h.mono fun r1 ρ3 w3 h => h.mono fun r2 ρ4 w4 h => h.mono fun z ρ5 w5 h => ?_
      obtain ⟨a, ρ6, w6, e, q⟩ := h
      dsimp only at e
      cases e1 : peek ρ5 r1 with
      | none => rw [e1] at e; cases e
      | some kd =>
        rw [e1] at e
        dsimp only at e
        cases e2 : keyT kd with
        | none => rw [e2] at e; cases e
        | some ks =>
          rw [e2] at e
          cases e
          exact ⟨kd, ks, rfl, e2, q⟩
  · cases b with
    | false => simpa using h
    | true =>
      simp only [if_true] at h ⊢
      refine h.mono fun r1 ρ3 w3 h => h.mono fun r2 ρ4 w4 h => h.mono fun z ρ5 w5 h => ?_
      obtain ⟨kd, ks, e1, e2, q⟩ := h
      exact ⟨_, _, _, by simp [e1, e2], q⟩
@[simp] theorem R_lenOM {cn : Str} {den : List D → W → Option (RV × W)} {Q : RV → Env → W → Prop} : R (lenOM cn den fa) ρ w Q ↔ R fa ρ w fun r ρ1 w1 => R (insR cn r) ρ1 w1 fun d ρ2 w2 => Ran (den [d] w2) fun z w3 => ∃ n : Int, z = .sh (.int n) ∧ (0 ≤ n ∧ n ≤ 1000000) ∧ Q (.sh (.int n)) ρ2 w3 := by
  unfold lenOM
  simp only [R_bind, R_runD]
  constructor <;> intro h <;> refine h.mono fun r ρ1 w1 h => h.mono fun d ρ2 w2 h => h.mono fun z w3 h => ?_
  · split at h
    · rename_i n
      split at h
      · rename_i hn
        exact ⟨n, rfl, hn, R_pure.mp h⟩
      · obtain ⟨_, _, _, e, _⟩ := h
        cases e
    · obtain ⟨_, _, _, e, _⟩ := h
      cases e
  · obtain ⟨n, rfl, hn, q⟩ := h
    dsimp only
    rw [if_pos hn]
    exact R_pure.mpr q
@[simp] theorem R_opOM {cn : Str} {den : List D → W → Option (RV × W)} {Q : RV → Env → W → Prop} : R (opOM cn den fa fb) ρ w Q ↔ R fa ρ w fun r1 ρ1 w1 => R fb ρ1 w1 fun r2 ρ2 w2 => R (insR cn r1) ρ2 w2 fun d1 ρ3 w3 => R (insR cn r2) ρ3 w3 fun d2 ρ4 w4 => Ran (den [d1, d2] w4) fun z w5 => Q z ρ4 w5 := by
  unfold opOM
  simp
@[simp] theorem R_ixOM {cn : Str} {den : List D → W → Option (RV × W)} {Q : RV → Env → W → Prop} : R (ixOM cn den fa fb) ρ w Q ↔ R fa ρ w fun r1 ρ1 w1 => R fb ρ1 w1 fun r2 ρ2 w2 => R (insR cn r1) ρ2 w2 fun d1 ρ3 w3 => R (escR r2) ρ3 w3 fun d2 ρ4 w4 => Ran (den [d1, d2] w4) fun z w5 => Q z ρ4 w5 := by
  unfold ixOM
  simp
@[simp] theorem R_chM {g g' : D → D → Option RV} {fc : M RV} {Q : RV → Env → W → Prop} : R (chM g g' fa fb fc) ρ w Q ↔ R fa ρ w fun r1 ρ1 w1 => R fb ρ1 w1 fun r2 ρ2 w2 => R (lift2 g r1 r2) ρ2 w2 fun z ρ3 w3 => ∃ b, z = .sh (.bl b) ∧ if b = true then R fc ρ3 w3 fun r3 ρ4 w4 => R (lift2 g' r2 r3) ρ4 w4 Q else Q (.sh (.bl false)) ρ3 w3 := by
  unfold chM
  simp only [R_bind]
  constructor <;> intro h <;> refine h.mono fun r ρ1 w1 h => h.mono fun r2 ρ2 w2 h => h.mono fun z ρ3 w3 h => ?_
  · split at h
    · exact ⟨true, rfl, by simpa using h⟩
    · exact ⟨false, rfl, by simpa using h⟩
    · obtain ⟨_, _, _, e, _⟩ := h
      cases e
  · obtain ⟨b, rfl, h⟩ := h
    cases b with
    | true => simpa using h
    | false => simpa using h
end
end FD

end sec_EV5
section sec_EV6
set_option maxRecDepth 100000
set_option maxHeartbeats 5000000
/-! EV6: loops over range(n) and over numbered lists. -/
namespace FD
open PySem L2
local instance tl6e : Tabl := { T := [] }
section
variable {α : Type} {ρ : Env} {w : W}
end
end FD

end sec_EV6
section sec_EV7
set_option maxRecDepth 100000
set_option maxHeartbeats 5000000
/-! EV7: rules for runs that raise, and for runs that do not come through. -/
namespace FD
open PySem L2
local instance tl7e : Tabl := { T := [] }
section
variable {α β : Type} {ρ : Env} {w : W} {fa : M (List RV)} {fo : M RV}
@[simp] theorem R_seqX {f : M Fl} {g : M Xn} {Q : Xn → Env → W → Prop} : R (seqX f g) ρ w Q ↔ R f ρ w fun fl ρ1 w1 => fl = .nx ∧ R g ρ1 w1 Q := by
  unfold seqX
  rw [R_bind]
  constructor <;> intro h <;> refine h.mono fun fl ρ1 w1 h => ?_
  · cases fl with
    | nx => exact ⟨rfl, h⟩
    | ct => obtain ⟨_, _, _, e, _⟩ := h; cases e
    | bk => obtain ⟨_, _, _, e, _⟩ := h; cases e
    | ret r => obtain ⟨_, _, _, e, _⟩ := h; cases e
  · obtain ⟨rfl, h⟩ := h
    exact h
@[simp] theorem R_ifX {ft : M Bool} {g g' : M Xn} {Q : Xn → Env → W → Prop} : R (ifX ft g g') ρ w Q ↔ R ft ρ w fun b ρ1 w1 => if b = true then R g ρ1 w1 Q else R g' ρ1 w1 Q := by
  unfold ifX
  rw [R_bind]
  constructor <;> intro h <;> refine h.mono fun b ρ1 w1 h => ?_
  · cases b with
    | true => simpa using h
    | false => simpa using h
  · cases b with
    | true => simpa using h
    | false => simpa using h
abbrev RanX (o : Option (Xn × W)) (Q : Xn → W → Prop) : Prop := Ran o Q
@[simp] theorem R_runX {den : List D → W → Option (Xn × W)} {ds : List D} {Q : Xn → Env → W → Prop} : R (runX den ds) ρ w Q ↔ RanX (den ds w) fun x w' => Q x ρ w' := by
  constructor
  · rintro ⟨x, ρ', w', e, q⟩
    obtain ⟨e1, rfl⟩ := runX_some e
    exact ⟨x, w', e1, q⟩
  · rintro ⟨x, w', e, q⟩
    exact ⟨x, ρ, w', by simp [runX, e], q⟩
@[simp] theorem R_callX {den : List D → W → Option (Xn × W)} {dd : List D} {Q : Xn → Env → W → Prop} : R (callX den dd fa) ρ w Q ↔ R fa ρ w fun rs ρ1 w1 => R (escAll rs) ρ1 w1 fun ds ρ2 w2 => RanX (den (ds ++ dd) w2) fun x w' => Q x ρ2 w' := by
  unfold callX
  simp only [R_bind, R_runX]
@[simp] theorem R_methX {cn m : Str} {den : List D → W → Option (Xn × W)} {dd : List D} {Q : Xn → Env → W → Prop} : R (methX cn m den dd fo fa) ρ w Q ↔ R fo ρ w fun r ρ1 w1 => R (selfR cn m r) ρ1 w1 fun d ρ2 w2 => R fa ρ2 w2 fun rs ρ3 w3 => R (escAll rs) ρ3 w3 fun ds ρ4 w4 => RanX (den (d :: (ds ++ dd)) w4) fun x w' => Q x ρ4 w' := by
  unfold methX
  simp only [R_bind, R_runX]
@[simp] theorem R_raiseX {cn f : Str} {Q : Xn → Env → W → Prop} : R (raiseX cn f fa) ρ w Q ↔ R fa ρ w fun rs ρ1 w1 => R (escAll rs) ρ1 w1 fun ds ρ2 w2 => ∃ d, ds = [d] ∧ Q ⟨cn, [(f, d)]⟩ ρ2 w2 := by
  unfold raiseX
  simp only [R_bind]
  constructor <;> intro h <;> refine h.mono fun rs ρ1 w1 h => h.mono fun ds ρ2 w2 h => ?_
  · match ds, h with
    | [d], h => exact ⟨d, rfl, by simpa using h⟩
    | [], ⟨_, _, _, e, _⟩ => cases e
    | _ :: _ :: _, ⟨_, _, _, e, _⟩ => cases e
  · obtain ⟨d, rfl, q⟩ := h
    simpa using q
/-! runs that do not come through -/
end
end FD

end sec_EV7
section sec_K01
set_option maxRecDepth 100000
set_option maxHeartbeats 1000000
/-! K01: the plain law of errors made. -/
namespace KL
open PySem L2 FD
local instance tk01 : Tabl := { T := [] }
section
variable {ρ : FD.Env} {w : W}
theorem R_isx0 {bt : String → Bool} {ic xi : List (Str × Bool)} {i : Nat} {cn : Str} {gs : List (Str × D)} {b : Bool} {Q : RV → FD.Env → W → Prop} (h : ρ[i]? = some (some (.val (.exc cn gs)))) (hb : xi.lookup cn = some b) (q : Q (.sh (.bl b)) ρ w) : R (alt (isiM bt ic (varM i)) (op1M (isxD xi) (varM i))) ρ w Q := by
  have v : varM i ρ w = some (.sh (.exc cn gs), ρ, w) := by simp [varM, h]
  refine R_alt2 ?_ ⟨_, _, _, ?_, q⟩
  · simp [isiM, op1M, bindM, v, lift1, peek, isiD, tyB]
  · simp [op1M, bindM, v, lift1, peek, isxD, hb]
theorem R_isxE {bt : String → Bool} {ic xi : List (Str × Bool)} {i : Nat} {cn : Str} {gs : List (Str × D)} {b : Bool} {Q : RV → FD.Env → W → Prop} (h : ρ[i]? = some (some (.val (.exc cn gs)))) (hb : xi.lookup cn = some b) : R (alt (isiM bt ic (varM i)) (op1M (isxD xi) (varM i))) ρ w Q ↔ Q (.sh (.bl b)) ρ w := by
  constructor
  · rintro ⟨a, ρ', w', e, q⟩
    obtain ⟨a2, ρ2, w2, e2, rfl, rfl, rfl⟩ := R_isx0 (bt := bt) (ic := ic) (Q := fun a ρ'' w'' => a = .sh (.bl b) ∧ ρ'' = ρ ∧ w'' = w) (w := w) h hb ⟨rfl, rfl, rfl⟩
    rw [e] at e2
    cases e2
    exact q
  · exact R_isx0 h hb
@[simp] theorem R_mkX {cn f : Str} {fa : M (List RV)} {Q : RV → FD.Env → W → Prop} : R (mkX cn f fa) ρ w Q ↔ R fa ρ w fun rs ρ1 w1 => R (escAll rs) ρ1 w1 fun ds ρ2 w2 => ∃ d, ds = [d] ∧ Q (.sh (.exc cn [(f, d)])) ρ2 w2 := by
  unfold mkX
  simp only [R_bind]
  constructor
  · intro h
    refine h.mono fun rs ρ1 w1 h => h.mono fun ds ρ2 w2 h => ?_
    match ds, h with
    | [], h => obtain ⟨_, _, _, e, _⟩ := h; cases e
    | [d], h => exact ⟨d, rfl, R_pure.mp h⟩
    | _ :: _ :: _, h => obtain ⟨_, _, _, e, _⟩ := h; cases e
  · intro h
    refine h.mono fun rs ρ1 w1 h => h.mono fun ds ρ2 w2 h => ?_
    obtain ⟨d, rfl, q⟩ := h
    exact R_pure.mpr q
@[simp] theorem R_mk0 {cn : Str} {fa : M RV} {Q : RV → FD.Env → W → Prop} : R (mk0 cn fa) ρ w Q ↔ R fa ρ w fun _ ρ1 w1 => Q (.sh (.exc cn [])) ρ1 w1 := by
  unfold mk0
  simp only [R_bind, R_pure]
end
/-! ### of which classes -/
theorem isx1 {cn : Str} {gs : List (Str × D)} {x : Option Slot} {b : Bool} {bt : String → Bool} {ic xi : List (Str × Bool)} {w : W} {Q : RV → FD.Env → W → Prop} (hb : xi.lookup cn = some b) : R (alt (isiM bt ic (varM 0)) (op1M (isxD xi) (varM 0))) [some (.val (.exc cn gs)), x] w Q ↔ Q (.sh (.bl b)) [some (.val (.exc cn gs)), x] w := R_isxE rfl hb
/-- what each class is told of the class cn -/
def looks (cn : Str) : List (Option Bool) := [xi_BadNumber.lookup cn, xi_BadColumns.lookup cn, xi_BadSet.lookup cn, xi_BadDependence.lookup cn, xi_BadRow.lookup cn, xi_NoPlace.lookup cn, xi_BadWeight.lookup cn, xi_BadLevel.lookup cn,
  xi_TooMany.lookup cn, xi_NotKept.lookup cn, xi_NoProduct.lookup cn, xi_BadLog.lookup cn, xi_BadText.lookup cn, xi_NoTable.lookup cn, xi_NothingLeft.lookup cn]
theorem kinds_eq {cn : Str} {gs : List (Str × D)} {w : W} {b0 b1 b2 b3 b4 b5 b6 b7 b8 b9 b10 b11 b12 b13 b14 : Bool} (h : looks cn = [b0, b1, b2, b3, b4, b5, b6, b7, b8, b9, b10, b11, b12, b13, b14].map some) :
    D_law_kinds [.exc cn gs] w = some (.fr (.lst ([b0, b1, b2, b3, b4, b5, b6, b7, b8, b9, b10, b11, b12, b13, b14].map D.bl)), w) := by
  simp only [looks, List.map_cons, List.map_nil, List.cons.injEq, and_true] at h
  obtain ⟨q0, q1, q2, q3, q4, q5, q6, q7, q8, q9, q10, q11, q12, q13, q14⟩ := h
  refine D_eq ?_
  simp [d_law_kinds, startE, isx1 q0, isx1 q1, isx1 q2, isx1 q3, isx1 q4, isx1 q5, isx1 q6, isx1 q7, isx1 q8, isx1 q9, isx1 q10, isx1 q11, isx1 q12, isx1 q13, isx1 q14, R_own, R_lift2g, peek, slotD, addD, outR]
def kl (i : Nat) : List D := (List.range 15).map fun k => D.bl (decide (k = i))
/-- the errors that are made of d, in order -/
def errs (d : D) : List D := [.exc "BadNumber" [("number", d)], .exc "BadColumns" [("given", d)], .exc "BadSet" [("letters", d)], .exc "BadDependence" [("at", d)], .exc "BadRow" [("at", d)], .exc "NoPlace" [("place", d)], .exc "BadWeight" [("weight", d)],
  .exc "BadLevel" [("letters", d)], .exc "TooMany" [("limit", d)], .exc "NotKept" [("at", d)], .exc "NoProduct" [("at", d)], .exc "BadLog" [("at", d)], .exc "BadText" [("place", d)], .exc "NoTable" [], .exc "NothingLeft" []]
theorem errs_at {d : D} {i : Nat} (h : i < 15) : ∃ cn gs, (errs d).getD i .non = .exc cn gs ∧ xi_MeanError.lookup cn = some true ∧ xi_ValueError.lookup cn = some true ∧ (∀ w, D_law_kinds [.exc cn gs] w = some (.fr (.lst (kl i)), w)) ∧ neD (.lst (kl i)) (.lst (kl i)) = some (.sh (.bl false)) := by
  have z : i = 0 ∨ i = 1 ∨ i = 2 ∨ i = 3 ∨ i = 4 ∨ i = 5 ∨ i = 6 ∨ i = 7 ∨ i = 8 ∨ i = 9 ∨ i = 10 ∨ i = 11 ∨ i = 12 ∨ i = 13 ∨ i = 14 := by omega
  rcases z with rfl | rfl | rfl | rfl | rfl | rfl | rfl | rfl | rfl | rfl | rfl | rfl | rfl | rfl | rfl <;>
    exact ⟨_, _, rfl, by decide +kernel, by decide +kernel, fun w => kinds_eq (by decide +kernel), rfl⟩
/-! ### values of any kind -/
def shO (n : Nat) (d : D) : Bool := match orN reprS reprQ [.lst (List.replicate n d)] with
  | some (.sh (.str s)) => s.cps.toList.all fun c => decide (c < 0x110000)
  | _ => false
def OddQ (d : D) : Prop := shO 5 d = true ∧ shO 13 d = true
theorem shO_eq {n : Nat} {d : D} (h : shO n d = true) : ∃ s, orN reprS reprQ [.lst (List.replicate n d)] = some (.sh (.str s)) ∧ neD (.str s) (.str s) = some (.sh (.bl false)) := by
  unfold shO at h
  split at h
  · rename_i s e
    refine ⟨s, e, ne_self fun c hc => ?_⟩
    have := List.all_eq_true.mp h c hc
    simpa using this
  · cases h
theorem R_odd1 {b : Nat} {w : W} {Q : RV → W → Prop} (h : Okb (b + 1) w) (q : ∀ d w', OddQ d → Okb b w' → Q (.sh d) w') : Ran (D_law_odd [.draw] w) Q := by
  refine D_run ?_
  unfold d_law_odd
  rw [R_seq]
  refine (R_some rfl).mpr ?_
  show R (seqM _ _) _ _ _
  rw [R_seq]
  refine (R_some rfl).mpr ?_
  show R (retM _) _ _ _
  simp [startE, R_var, R_own, R_escow]
  refine R_pick h (by simp) (by simp) fun d w1 hd h1 => ?_
  simp [outR]
  refine q d w1 ?_ h1
  simp at hd
  rcases hd with rfl | rfl | rfl | rfl | rfl | rfl | rfl | rfl | rfl | rfl | rfl | rfl | rfl | rfl | rfl | rfl | rfl | rfl | rfl | rfl | rfl | rfl | rfl | rfl | rfl | rfl | rfl | rfl | rfl | rfl <;>
    exact ⟨by decide +kernel, by decide +kernel⟩
theorem R_rangeE {ρ : FD.Env} {w : W} {n : Int} {Q : List D → FD.Env → W → Prop} (h : -1000000 ≤ n ∧ n ≤ 1000000) : R (rangeM [.sh (.int n)]) ρ w Q ↔ Q ((List.range n.toNat).map fun (i : Nat) => D.int (i : Int)) ρ w := R_range rfl h
theorem xfd_eq {xs : List Str} {f cn : Str} {d : D} (h : xs.contains cn = true) : xfD xs f (.exc cn [(f, d)]) = some (.sh d) := by
  unfold xfD
  dsimp only
  rw [if_pos h]
  simp
theorem law_true : ∀ ns : List Int, ns.length ≤ 63 → (∀ z ∈ ns, Builtin.Int.intBits z ≤ 1048576) → law ns = true := by
  intro ns h1 _
  refine law_run (fun ns w hns hb => ?_) ns h1
  have hm : minD [.int (ns.length : Int), .int 8] = some (.sh (.int (if (8 : Int) < ns.length then 8 else ns.length))) := rfl
  simp only [d_law]
  have c0 : looks "MeanError" = (List.replicate 15 false).map some := by decide +kernel
  obtain ⟨J, hJ⟩ : ∃ J : List Nat → FD.Env → W → Prop, ∀ rest ρ w', J rest ρ w' ↔ ∃ (x2 x3 x4 x5 x6 x7 x8 x9 x11 : Option Slot), ρ = [some (.val (.scr ns)), some (.val .draw), x2, x3, x4, x5, x6, x7, x8, x9, none, x11] ∧ rest.length ≤ 100 ∧ Okb (1000 * rest.length) w' := ⟨_, fun _ _ _ => Iff.rfl⟩
  refine R_then (fun ρ w => J [] ρ w) ?_ ?_
  · simp [startE, R_var, R_liftN, peeks, peek, lenD, hm, addD]
    rw [R_rangeE (by split <;> omega)]
    refine R_forLm (fun i : Nat => D.int (i : Int)) J ?_ ?_ _ _ _ ((hJ _ _ _).mpr ⟨none, none, none, none, none, none, none, none, none, rfl, by simp; split <;> omega, hb.mono (by simp; split <;> omega)⟩)
    · intro i rest ρ w' hj
      obtain ⟨x2, x3, x4, x5, x6, x7, x8, x9, x11, rfl, hl, hb⟩ := (hJ _ _ _).mp hj
      simp only [List.length_cons] at hl hb
      simp only [R_gName, List.set_cons_succ, List.set_cons_zero, List.set_nil]
      refine R_then (fun ρ w => ∃ d1 d2 : D, ρ = [some (.val (.scr ns)), some (.val .draw), some (.val (.int i)), x3, x4, x5, some (.val d1), some (.val d2), x8, x9, none, x11] ∧ OddQ d1 ∧ OddQ d2 ∧ Okb (1000 * rest.length) w) ?_ ?_
      · simp [R_var]
        refine R_odd1 (b := 1000 * rest.length + 900) (hb.mono (by omega)) fun d1 w1 o1 h1 => ?_
        simp [R_var]
        refine R_odd1 (b := 1000 * rest.length) (h1.mono (by omega)) fun d2 w2 o2 h2 => ?_
        simp
        exact ⟨d1, d2, ⟨rfl, rfl⟩, o1, o2, h2⟩
      rintro ρ1 w1 ⟨d1, d2, rfl, o1, o2, hw⟩
      clear hb hj
      obtain ⟨s1, r1, n1⟩ := shO_eq o1.2
      obtain ⟨s2, r2, n2⟩ := shO_eq o2.1
      obtain ⟨es, hes⟩ : ∃ es : List D, es = errs d1 := ⟨_, rfl⟩
      obtain ⟨ms, hms⟩ : ∃ ms : List D, ms = [.exc "BadNumber" [("number", d2)], .exc "BadSet" [("letters", d2)], .exc "BadRow" [("at", d2)], .exc "BadLevel" [("letters", d2)], .exc "BadText" [("place", d2)]] := ⟨_, rfl⟩
      refine R_then (fun ρ w => w1 = w ∧ ρ = [some (.val (.scr ns)), some (.val .draw), some (.val (.int i)), some (.own (.lst (es.take 5))), x4, x5, some (.val d1), some (.val d2), x8, x9, none, x11]) ?_ ?_
      · rw [hes]
        simp [R_var, errs]
        done
      rintro _ _ ⟨rfl, rfl⟩
      refine R_then (fun ρ w => w1 = w ∧ ρ = [some (.val (.scr ns)), some (.val .draw), some (.val (.int i)), some (.own (.lst (es.take 10))), x4, x5, some (.val d1), some (.val d2), x8, x9, none, x11]) ?_ ?_
      · rw [hes]
        simp [R_var, errs, R_own, R_lift2g, peek, slotD, addD]
        done
      rintro _ _ ⟨rfl, rfl⟩
      refine R_then (fun ρ w => w1 = w ∧ ρ = [some (.val (.scr ns)), some (.val .draw), some (.val (.int i)), some (.own (.lst es)), x4, x5, some (.val d1), some (.val d2), x8, x9, none, x11]) ?_ ?_
      · rw [hes]
        simp [R_var, errs, R_own, R_lift2g, peek, slotD, addD]
        done
      rintro _ _ ⟨rfl, rfl⟩
      refine R_then (fun ρ w => w1 = w ∧ ∃ y8 y9, ρ = [some (.val (.scr ns)), some (.val .draw), some (.val (.int i)), some (.val (.lst es)), x4, x5, some (.val d1), some (.val d2), y8, y9, none, x11]) ?_ ?_
      · simp [R_own, R_enumM, seqD, R_escow]
        have en : numD 0 es = (List.range 15).map fun (k : Nat) => D.tup [.int (k : Int), (errs d1).getD k .non] := by
          rw [hes]
          rfl
        rw [en]
        obtain ⟨L, hL⟩ : ∃ L : List Nat → FD.Env → W → Prop, ∀ l ρ w, L l ρ w ↔ (∀ k ∈ l, k < 15) ∧ w1 = w ∧ ∃ y8 y9, ρ = [some (.val (.scr ns)), some (.val .draw), some (.val (.int i)), some (.val (.lst es)), x4, x5, some (.val d1), some (.val d2), y8, y9, none, x11] := ⟨_, fun _ _ _ => Iff.rfl⟩
        refine R_forLm (fun k : Nat => D.tup [.int (k : Int), (errs d1).getD k .non]) L ?_ ?_ _ _ _ ((hL _ _ _).mpr ⟨fun k hk => List.mem_range.mp hk, rfl, x8, x9, rfl⟩)
        · intro k l ρ w h
          obtain ⟨hk, rfl, y8, y9, rfl⟩ := (hL _ _ _).mp h
          obtain ⟨cn, gs, e0, e1, e2, e3, e4⟩ := errs_at (d := d1) (hk k List.mem_cons_self)
          have z1 : ∀ (Q : RV → FD.Env → W → Prop), R (alt (isiM bt_MeanError ic_MeanError (varM 9)) (op1M (isxD xi_MeanError) (varM 9))) [some (.val (.scr ns)), some (.val .draw), some (.val (.int i)), some (.val (.lst es)), x4, x5, some (.val d1), some (.val d2), some (.val (.int k)), some (.val (.exc cn gs)), none, x11] w1 Q ↔ Q (.sh (.bl true)) [some (.val (.scr ns)), some (.val .draw), some (.val (.int i)), some (.val (.lst es)), x4, x5, some (.val d1), some (.val d2), some (.val (.int k)), some (.val (.exc cn gs)), none, x11] w1 := fun Q => R_isxE rfl e1
          have z2 : ∀ (Q : RV → FD.Env → W → Prop), R (alt (isiM bt_ValueError ic_ValueError (varM 9)) (op1M (isxD xi_ValueError) (varM 9))) [some (.val (.scr ns)), some (.val .draw), some (.val (.int i)), some (.val (.lst es)), x4, x5, some (.val d1), some (.val d2), some (.val (.int k)), some (.val (.exc cn gs)), none, x11] w1 Q ↔ Q (.sh (.bl true)) [some (.val (.scr ns)), some (.val .draw), some (.val (.int i)), some (.val (.lst es)), x4, x5, some (.val d1), some (.val d2), some (.val (.int k)), some (.val (.exc cn gs)), none, x11] w1 := fun Q => R_isxE rfl e2
          simp only [e0, R_gTup, R_gCons, R_gName, R_gNil, List.set_cons_succ, List.set_cons_zero, List.set_nil]
          refine R_then (fun ρ w => w1 = w ∧ ρ = [some (.val (.scr ns)), some (.val .draw), some (.val (.int i)), some (.val (.lst es)), x4, x5, some (.val d1), some (.val d2), some (.val (.int k)), some (.val (.exc cn gs)), none, x11]) ?_ ?_
          · simp [z1, z2]
          rintro _ _ ⟨rfl, rfl⟩
          simp [R_var, e3, R_lift2g, peek, R_lcM]
          rw [R_rangeE (by omega)]
          refine ⟨⟨rfl, by simp⟩, ?_⟩
          refine R_lcMap (fun j : Nat => D.int (j : Int)) (fun j => D.bl (decide (j = k))) (List.range 15) (fun j hj => ?_) ?_
          · have q := eqD_NB (a := .int (j : Int)) (b := .int (k : Int)) trivial trivial
            simp [R_var, wipeE, lcTurn, R_lift2g, peek, q]
            omega
          · simp [wipeE, restE]
            exact ⟨_, e4, rfl, (hL _ _ _).mpr ⟨fun j hj => hk j (List.mem_cons_of_mem _ hj), rfl, _, _, rfl⟩⟩
        · intro ρ w h
          obtain ⟨_, rfl, y8, y9, rfl⟩ := (hL _ _ _).mp h
          exact ⟨rfl, rfl, y8, y9, rfl⟩
      rintro _ _ ⟨rfl, x8, x9, rfl⟩
      have ie0 : ixD (.lst es) (.int 0) = some (.sh (.exc "BadNumber" [("number", d1)])) := by
        rw [hes]
        rfl
      have ie1 : ixD (.lst es) (.int 1) = some (.sh (.exc "BadColumns" [("given", d1)])) := by
        rw [hes]
        rfl
      have ie2 : ixD (.lst es) (.int 2) = some (.sh (.exc "BadSet" [("letters", d1)])) := by
        rw [hes]
        rfl
      have ie3 : ixD (.lst es) (.int 3) = some (.sh (.exc "BadDependence" [("at", d1)])) := by
        rw [hes]
        rfl
      have ie4 : ixD (.lst es) (.int 4) = some (.sh (.exc "BadRow" [("at", d1)])) := by
        rw [hes]
        rfl
      have ie5 : ixD (.lst es) (.int 5) = some (.sh (.exc "NoPlace" [("place", d1)])) := by
        rw [hes]
        rfl
      have ie6 : ixD (.lst es) (.int 6) = some (.sh (.exc "BadWeight" [("weight", d1)])) := by
        rw [hes]
        rfl
      have ie7 : ixD (.lst es) (.int 7) = some (.sh (.exc "BadLevel" [("letters", d1)])) := by
        rw [hes]
        rfl
      have ie8 : ixD (.lst es) (.int 8) = some (.sh (.exc "TooMany" [("limit", d1)])) := by
        rw [hes]
        rfl
      have ie9 : ixD (.lst es) (.int 9) = some (.sh (.exc "NotKept" [("at", d1)])) := by
        rw [hes]
        rfl
      have ie10 : ixD (.lst es) (.int 10) = some (.sh (.exc "NoProduct" [("at", d1)])) := by
        rw [hes]
        rfl
      have ie11 : ixD (.lst es) (.int 11) = some (.sh (.exc "BadLog" [("at", d1)])) := by
        rw [hes]
        rfl
      have ie12 : ixD (.lst es) (.int 12) = some (.sh (.exc "BadText" [("place", d1)])) := by
        rw [hes]
        rfl
      have im0 : ixD (.lst ms) (.int 0) = some (.sh (.exc "BadNumber" [("number", d2)])) := by
        rw [hms]
        rfl
      have im1 : ixD (.lst ms) (.int 1) = some (.sh (.exc "BadSet" [("letters", d2)])) := by
        rw [hms]
        rfl
      have im2 : ixD (.lst ms) (.int 2) = some (.sh (.exc "BadRow" [("at", d2)])) := by
        rw [hms]
        rfl
      have im3 : ixD (.lst ms) (.int 3) = some (.sh (.exc "BadLevel" [("letters", d2)])) := by
        rw [hms]
        rfl
      have im4 : ixD (.lst ms) (.int 4) = some (.sh (.exc "BadText" [("place", d2)])) := by
        rw [hms]
        rfl
      have r1' : orN reprS reprQ [.lst [d1, d1, d1, d1, d1, d1, d1, d1, d1, d1, d1, d1, d1]] = some (.sh (.str s1)) := r1
      refine R_then (fun ρ w => w1 = w ∧ ρ = [some (.val (.scr ns)), some (.val .draw), some (.val (.int i)), some (.val (.lst es)), some (.own (.lst (List.replicate 7 d1))), x5, some (.val d1), some (.val d2), x8, x9, none, x11]) ?_ ?_
      · have g0 := xfd_eq (xs := xf_number) (f := "number") (cn := "BadNumber") (d := d1) (by decide +kernel)
        have g1 := xfd_eq (xs := xf_given) (f := "given") (cn := "BadColumns") (d := d1) (by decide +kernel)
        have g2 := xfd_eq (xs := xf_letters) (f := "letters") (cn := "BadSet") (d := d1) (by decide +kernel)
        have g3 := xfd_eq (xs := xf_at) (f := "at") (cn := "BadDependence") (d := d1) (by decide +kernel)
        have g4 := xfd_eq (xs := xf_at) (f := "at") (cn := "BadRow") (d := d1) (by decide +kernel)
        have g5 := xfd_eq (xs := xf_place) (f := "place") (cn := "NoPlace") (d := d1) (by decide +kernel)
        have g6 := xfd_eq (xs := xf_weight) (f := "weight") (cn := "BadWeight") (d := d1) (by decide +kernel)
        simp [R_var, R_lift2g, R_lift1', peek, ie0, ie1, ie2, ie3, ie4, ie5, ie6, g0, g1, g2, g3, g4, g5, g6]
        try rfl
      rintro _ _ ⟨rfl, rfl⟩
      refine R_then (fun ρ w => w1 = w ∧ ρ = [some (.val (.scr ns)), some (.val .draw), some (.val (.int i)), some (.val (.lst es)), some (.own (.lst (List.replicate 13 d1))), x5, some (.val d1), some (.val d2), x8, x9, none, x11]) ?_ ?_
      · have g0 := xfd_eq (xs := xf_letters) (f := "letters") (cn := "BadLevel") (d := d1) (by decide +kernel)
        have g1 := xfd_eq (xs := xf_limit) (f := "limit") (cn := "TooMany") (d := d1) (by decide +kernel)
        have g2 := xfd_eq (xs := xf_at) (f := "at") (cn := "NotKept") (d := d1) (by decide +kernel)
        have g3 := xfd_eq (xs := xf_at) (f := "at") (cn := "NoProduct") (d := d1) (by decide +kernel)
        have g4 := xfd_eq (xs := xf_at) (f := "at") (cn := "BadLog") (d := d1) (by decide +kernel)
        have g5 := xfd_eq (xs := xf_place) (f := "place") (cn := "BadText") (d := d1) (by decide +kernel)
        simp [R_var, R_own, R_lift2g, R_lift1', peek, slotD, addD, ie7, ie8, ie9, ie10, ie11, ie12, g0, g1, g2, g3, g4, g5]
        try rfl
      rintro _ _ ⟨rfl, rfl⟩
      refine R_then (fun ρ w => w1 = w ∧ ∃ u4, ρ = [some (.val (.scr ns)), some (.val .draw), some (.val (.int i)), some (.val (.lst es)), u4, x5, some (.val d1), some (.val d2), x8, x9, none, x11]) ?_ ?_
      · have p1 : repD (.lst [d1]) (.int 13) = some (.fr (.lst (List.replicate 13 d1))) := by simp [repD, List.replicate]
        simp [R_var, R_own, R_lift2g, R_liftNg, R_liftN, peeks, peek, slotD, p1, r1, r1', n1]
        skip
      rintro _ _ ⟨rfl, u4, rfl⟩
      refine R_then (fun ρ w => w1 = w ∧ ρ = [some (.val (.scr ns)), some (.val .draw), some (.val (.int i)), some (.val (.lst es)), u4, some (.own (.lst ms)), some (.val d1), some (.val d2), x8, x9, none, x11]) ?_ ?_
      · rw [hms]
        simp [R_var]
      rintro _ _ ⟨rfl, rfl⟩
      have g0 := xfd_eq (xs := xf_number) (f := "number") (cn := "BadNumber") (d := d2) (by decide +kernel)
      have g1 := xfd_eq (xs := xf_letters) (f := "letters") (cn := "BadSet") (d := d2) (by decide +kernel)
      have g2 := xfd_eq (xs := xf_at) (f := "at") (cn := "BadRow") (d := d2) (by decide +kernel)
      have g3 := xfd_eq (xs := xf_letters) (f := "letters") (cn := "BadLevel") (d := d2) (by decide +kernel)
      have g4 := xfd_eq (xs := xf_place) (f := "place") (cn := "BadText") (d := d2) (by decide +kernel)
      have p2 : repD (.lst [d2]) (.int 5) = some (.fr (.lst (List.replicate 5 d2))) := by simp [repD, List.replicate]
      have r3 : orN reprS reprQ [.lst [d2, d2, d2, d2, d2]] = some (.sh (.str s2)) := r2
      simp [R_var, R_own, R_lift2g, R_lift1', R_liftNg, R_liftN, peeks, peek, slotD, im0, im1, im2, im3, im4, g0, g1, g2, g3, g4, p2, r2, r3, n2]
      exact (hJ _ _ _).mpr ⟨_, _, _, _, _, _, _, _, _, rfl, by omega, hw⟩
    · intro ρ w' h
      simp [h]
  · rintro ρ w h
    obtain ⟨x2, x3, x4, x5, x6, x7, x8, x9, x11, rfl, hl, hb⟩ := (hJ _ _ _).mp h
    have k0 := fun w => kinds_eq (gs := []) (w := w) (b0 := false) (b1 := false) (b2 := false) (b3 := false) (b4 := false) (b5 := false) (b6 := false) (b7 := false) (b8 := false) (b9 := false) (b10 := false) (b11 := false) (b12 := false) (b13 := false) (b14 := false) c0
    have v0 : xi_ValueError.lookup ("MeanError" : Str) = some true := by decide +kernel
    simp [R_var, k0, R_lift2g, peek, inF, vOf, itemsOf, vsOf, inV, eqV]
    rw [R_isxE rfl v0]
end KL

end sec_K01
section sec_End
open PySem PySem.W PyProof.Rows
set_option maxRecDepth 100000 in
set_option maxHeartbeats 0 in
theorem PySem.Challenge.cw_meanways_k01_errors_made_holds : PySem.Challenge.rw_meanways_k01_errors_made.Holds := by
  w_on; o_law; k_head; (case hw => w_witness2)
  k_fill
  refine LG.walkS (l := PySem.Challenge.rw_meanways_k01_errors_made) (n := 63) (k := 6) (x := "_law_script") rfl (by decide) rfl ⟨rfl, by decide, by decide⟩ (fun w h Y => by first | exact PySem.W.kIn_of Y | exact PySem.W.km_in_of Y) (by kernel_rfl) ?F
  case F =>
    intro w mg fa h Y KX G hmg
    refine' KL.asm KX G hmg ?aC_MeanError ?aC_BadNumber ?aC_BadColumns ?aC_BadSet ?aC_BadDependence ?aC_BadRow ?aC_NoPlace ?aC_BadWeight ?aC_BadLevel ?aC_TooMany ?aC_NotKept ?aC_NoProduct ?aC_BadLog ?aC_BadText ?aC_NoTable ?aC_NothingLeft ?xei_MeanError ?xkc_MeanError ?xex_MeanError ?xga_MeanError ?xgt_MeanError ?xhd_MeanError ?xha_MeanError ?xmr_MeanError ?xei_NothingLeft ?xkc_NothingLeft ?xex_NothingLeft ?xga_NothingLeft ?xgt_NothingLeft ?xhd_NothingLeft ?xha_NothingLeft ?xmr_NothingLeft ?xei_NoTable ?xkc_NoTable ?xex_NoTable ?xga_NoTable ?xgt_NoTable ?xhd_NoTable ?xha_NoTable ?xmr_NoTable ?lk_BadText ?ki_rv_BadText ?xsa_BadText ?xex_BadText ?xty_BadText ?xkc_BadText ?xga_BadText ?xgt_BadText ?xhd_BadText ?xha_BadText ?xmr_BadText ?xno_BadText ?a_BadText_init ?xti_BadText_init ?l_BadText_init ?c_BadText_init ?k_BadText_init ?lk_BadLevel ?ki_rv_BadLevel ?xsa_BadLevel ?xex_BadLevel ?xty_BadLevel ?xkc_BadLevel ?xga_BadLevel ?xgt_BadLevel ?xhd_BadLevel ?xha_BadLevel ?xmr_BadLevel ?xno_BadLevel ?a_BadLevel_init ?xti_BadLevel_init ?l_BadLevel_init ?c_BadLevel_init ?k_BadLevel_init ?lk_BadRow ?ki_rv_BadRow ?xsa_BadRow ?xex_BadRow ?xty_BadRow ?xkc_BadRow ?xga_BadRow ?xgt_BadRow ?xhd_BadRow ?xha_BadRow ?xmr_BadRow ?xno_BadRow ?a_BadRow_init ?xti_BadRow_init ?l_BadRow_init ?c_BadRow_init ?k_BadRow_init ?lk_BadSet ?ki_rv_BadSet ?xsa_BadSet ?xex_BadSet ?xty_BadSet ?xkc_BadSet ?xga_BadSet ?xgt_BadSet ?xhd_BadSet ?xha_BadSet ?xmr_BadSet ?xno_BadSet ?a_BadSet_init ?xti_BadSet_init ?l_BadSet_init ?c_BadSet_init ?k_BadSet_init ?lk_BadNumber ?ki_rv_BadNumber ?xsa_BadNumber ?xex_BadNumber ?xty_BadNumber ?xkc_BadNumber ?xga_BadNumber ?xgt_BadNumber ?xhd_BadNumber ?xha_BadNumber ?xmr_BadNumber ?xno_BadNumber ?a_BadNumber_init ?xti_BadNumber_init ?l_BadNumber_init ?c_BadNumber_init ?k_BadNumber_init ?lk_BadLog ?ki_rv_BadLog ?xsa_BadLog ?xex_BadLog ?xty_BadLog ?xkc_BadLog ?xga_BadLog ?xgt_BadLog ?xhd_BadLog ?xha_BadLog ?xmr_BadLog ?xno_BadLog ?a_BadLog_init ?xti_BadLog_init ?l_BadLog_init ?c_BadLog_init ?k_BadLog_init ?lk_NoProduct ?ki_rv_NoProduct ?xsa_NoProduct ?xex_NoProduct ?xty_NoProduct ?xkc_NoProduct ?xga_NoProduct ?xgt_NoProduct ?xhd_NoProduct ?xha_NoProduct ?xmr_NoProduct ?xno_NoProduct ?a_NoProduct_init ?xti_NoProduct_init ?l_NoProduct_init ?c_NoProduct_init ?k_NoProduct_init ?lk_NotKept ?ki_rv_NotKept ?xsa_NotKept ?xex_NotKept ?xty_NotKept ?xkc_NotKept ?xga_NotKept ?xgt_NotKept ?xhd_NotKept ?xha_NotKept ?xmr_NotKept ?xno_NotKept ?a_NotKept_init ?xti_NotKept_init ?l_NotKept_init ?c_NotKept_init ?k_NotKept_init ?lk_TooMany ?ki_rv_TooMany ?xsa_TooMany ?xex_TooMany ?xty_TooMany ?xkc_TooMany ?xga_TooMany ?xgt_TooMany ?xhd_TooMany ?xha_TooMany ?xmr_TooMany ?xno_TooMany ?a_TooMany_init ?xti_TooMany_init ?l_TooMany_init ?c_TooMany_init ?k_TooMany_init ?lk_BadWeight ?ki_rv_BadWeight ?xsa_BadWeight ?xex_BadWeight ?xty_BadWeight ?xkc_BadWeight ?xga_BadWeight ?xgt_BadWeight ?xhd_BadWeight ?xha_BadWeight ?xmr_BadWeight ?xno_BadWeight ?a_BadWeight_init ?xti_BadWeight_init ?l_BadWeight_init ?c_BadWeight_init ?k_BadWeight_init ?lk_NoPlace ?ki_rv_NoPlace ?xsa_NoPlace ?xex_NoPlace ?xty_NoPlace ?xkc_NoPlace ?xga_NoPlace ?xgt_NoPlace ?xhd_NoPlace ?xha_NoPlace ?xmr_NoPlace ?xno_NoPlace ?a_NoPlace_init ?xti_NoPlace_init ?l_NoPlace_init ?c_NoPlace_init ?k_NoPlace_init ?lk_BadDependence ?ki_rv_BadDependence ?xsa_BadDependence ?xex_BadDependence ?xty_BadDependence ?xkc_BadDependence ?xga_BadDependence ?xgt_BadDependence ?xhd_BadDependence ?xha_BadDependence ?xmr_BadDependence ?xno_BadDependence ?a_BadDependence_init ?xti_BadDependence_init ?l_BadDependence_init ?c_BadDependence_init ?k_BadDependence_init ?lk_BadColumns ?ki_rv_BadColumns ?xsa_BadColumns ?xex_BadColumns ?xty_BadColumns ?xkc_BadColumns ?xga_BadColumns ?xgt_BadColumns ?xhd_BadColumns ?xha_BadColumns ?xmr_BadColumns ?xno_BadColumns ?a_BadColumns_init ?xti_BadColumns_init ?l_BadColumns_init ?c_BadColumns_init ?k_BadColumns_init ?kk_xi_BadColumns_MeanError ?kk_xi_BadColumns_BadText ?kk_xi_BadColumns_BadLevel ?kk_xi_BadColumns_BadRow ?kk_xi_BadColumns_BadSet ?kk_xi_BadColumns_BadNumber ?kk_xi_BadColumns_NothingLeft ?kk_xi_BadColumns_NoTable ?kk_xi_BadColumns_BadLog ?kk_xi_BadColumns_NoProduct ?kk_xi_BadColumns_NotKept ?kk_xi_BadColumns_TooMany ?kk_xi_BadColumns_BadWeight ?kk_xi_BadColumns_NoPlace ?kk_xi_BadColumns_BadDependence ?kk_xi_BadColumns_BadColumns ?kk_xi_BadDependence_MeanError ?kk_xi_BadDependence_BadText ?kk_xi_BadDependence_BadLevel ?kk_xi_BadDependence_BadRow ?kk_xi_BadDependence_BadSet ?kk_xi_BadDependence_BadNumber ?kk_xi_BadDependence_NothingLeft ?kk_xi_BadDependence_NoTable ?kk_xi_BadDependence_BadLog ?kk_xi_BadDependence_NoProduct ?kk_xi_BadDependence_NotKept ?kk_xi_BadDependence_TooMany ?kk_xi_BadDependence_BadWeight ?kk_xi_BadDependence_NoPlace ?kk_xi_BadDependence_BadDependence ?kk_xi_BadDependence_BadColumns ?kk_xi_BadLevel_MeanError ?kk_xi_BadLevel_BadText ?kk_xi_BadLevel_BadLevel ?kk_xi_BadLevel_BadRow ?kk_xi_BadLevel_BadSet ?kk_xi_BadLevel_BadNumber ?kk_xi_BadLevel_NothingLeft ?kk_xi_BadLevel_NoTable ?kk_xi_BadLevel_BadLog ?kk_xi_BadLevel_NoProduct ?kk_xi_BadLevel_NotKept ?kk_xi_BadLevel_TooMany ?kk_xi_BadLevel_BadWeight ?kk_xi_BadLevel_NoPlace ?kk_xi_BadLevel_BadDependence ?kk_xi_BadLevel_BadColumns ?kk_xi_BadLog_MeanError ?kk_xi_BadLog_BadText ?kk_xi_BadLog_BadLevel ?kk_xi_BadLog_BadRow ?kk_xi_BadLog_BadSet ?kk_xi_BadLog_BadNumber ?kk_xi_BadLog_NothingLeft ?kk_xi_BadLog_NoTable ?kk_xi_BadLog_BadLog ?kk_xi_BadLog_NoProduct ?kk_xi_BadLog_NotKept ?kk_xi_BadLog_TooMany ?kk_xi_BadLog_BadWeight ?kk_xi_BadLog_NoPlace ?kk_xi_BadLog_BadDependence ?kk_xi_BadLog_BadColumns ?kk_xi_BadNumber_MeanError ?kk_xi_BadNumber_BadText ?kk_xi_BadNumber_BadLevel ?kk_xi_BadNumber_BadRow ?kk_xi_BadNumber_BadSet ?kk_xi_BadNumber_BadNumber ?kk_xi_BadNumber_NothingLeft ?kk_xi_BadNumber_NoTable ?kk_xi_BadNumber_BadLog ?kk_xi_BadNumber_NoProduct ?kk_xi_BadNumber_NotKept ?kk_xi_BadNumber_TooMany ?kk_xi_BadNumber_BadWeight ?kk_xi_BadNumber_NoPlace ?kk_xi_BadNumber_BadDependence ?kk_xi_BadNumber_BadColumns ?kk_xi_BadRow_MeanError ?kk_xi_BadRow_BadText ?kk_xi_BadRow_BadLevel ?kk_xi_BadRow_BadRow ?kk_xi_BadRow_BadSet ?kk_xi_BadRow_BadNumber ?kk_xi_BadRow_NothingLeft ?kk_xi_BadRow_NoTable ?kk_xi_BadRow_BadLog ?kk_xi_BadRow_NoProduct ?kk_xi_BadRow_NotKept ?kk_xi_BadRow_TooMany ?kk_xi_BadRow_BadWeight ?kk_xi_BadRow_NoPlace ?kk_xi_BadRow_BadDependence ?kk_xi_BadRow_BadColumns ?kk_xi_BadSet_MeanError ?kk_xi_BadSet_BadText ?kk_xi_BadSet_BadLevel ?kk_xi_BadSet_BadRow ?kk_xi_BadSet_BadSet ?kk_xi_BadSet_BadNumber ?kk_xi_BadSet_NothingLeft ?kk_xi_BadSet_NoTable ?kk_xi_BadSet_BadLog ?kk_xi_BadSet_NoProduct ?kk_xi_BadSet_NotKept ?kk_xi_BadSet_TooMany ?kk_xi_BadSet_BadWeight ?kk_xi_BadSet_NoPlace ?kk_xi_BadSet_BadDependence ?kk_xi_BadSet_BadColumns ?kk_xi_BadText_MeanError ?kk_xi_BadText_BadText ?kk_xi_BadText_BadLevel ?kk_xi_BadText_BadRow ?kk_xi_BadText_BadSet ?kk_xi_BadText_BadNumber ?kk_xi_BadText_NothingLeft ?kk_xi_BadText_NoTable ?kk_xi_BadText_BadLog ?kk_xi_BadText_NoProduct ?kk_xi_BadText_NotKept ?kk_xi_BadText_TooMany ?kk_xi_BadText_BadWeight ?kk_xi_BadText_NoPlace ?kk_xi_BadText_BadDependence ?kk_xi_BadText_BadColumns ?kk_xi_BadWeight_MeanError ?kk_xi_BadWeight_BadText ?kk_xi_BadWeight_BadLevel ?kk_xi_BadWeight_BadRow ?kk_xi_BadWeight_BadSet ?kk_xi_BadWeight_BadNumber ?kk_xi_BadWeight_NothingLeft ?kk_xi_BadWeight_NoTable ?kk_xi_BadWeight_BadLog ?kk_xi_BadWeight_NoProduct ?kk_xi_BadWeight_NotKept ?kk_xi_BadWeight_TooMany ?kk_xi_BadWeight_BadWeight ?kk_xi_BadWeight_NoPlace ?kk_xi_BadWeight_BadDependence ?kk_xi_BadWeight_BadColumns ?kk_xi_MeanError_MeanError ?kk_xi_MeanError_BadText ?kk_xi_MeanError_BadLevel ?kk_xi_MeanError_BadRow ?kk_xi_MeanError_BadSet ?kk_xi_MeanError_BadNumber ?kk_xi_MeanError_NothingLeft ?kk_xi_MeanError_NoTable ?kk_xi_MeanError_BadLog ?kk_xi_MeanError_NoProduct ?kk_xi_MeanError_NotKept ?kk_xi_MeanError_TooMany ?kk_xi_MeanError_BadWeight ?kk_xi_MeanError_NoPlace ?kk_xi_MeanError_BadDependence ?kk_xi_MeanError_BadColumns ?kk_xi_NoPlace_MeanError ?kk_xi_NoPlace_BadText ?kk_xi_NoPlace_BadLevel ?kk_xi_NoPlace_BadRow ?kk_xi_NoPlace_BadSet ?kk_xi_NoPlace_BadNumber ?kk_xi_NoPlace_NothingLeft ?kk_xi_NoPlace_NoTable ?kk_xi_NoPlace_BadLog ?kk_xi_NoPlace_NoProduct ?kk_xi_NoPlace_NotKept ?kk_xi_NoPlace_TooMany ?kk_xi_NoPlace_BadWeight ?kk_xi_NoPlace_NoPlace ?kk_xi_NoPlace_BadDependence ?kk_xi_NoPlace_BadColumns ?kk_xi_NoProduct_MeanError ?kk_xi_NoProduct_BadText ?kk_xi_NoProduct_BadLevel ?kk_xi_NoProduct_BadRow ?kk_xi_NoProduct_BadSet ?kk_xi_NoProduct_BadNumber ?kk_xi_NoProduct_NothingLeft ?kk_xi_NoProduct_NoTable ?kk_xi_NoProduct_BadLog ?kk_xi_NoProduct_NoProduct ?kk_xi_NoProduct_NotKept ?kk_xi_NoProduct_TooMany ?kk_xi_NoProduct_BadWeight ?kk_xi_NoProduct_NoPlace ?kk_xi_NoProduct_BadDependence ?kk_xi_NoProduct_BadColumns ?kk_xi_NoTable_MeanError ?kk_xi_NoTable_BadText ?kk_xi_NoTable_BadLevel ?kk_xi_NoTable_BadRow ?kk_xi_NoTable_BadSet ?kk_xi_NoTable_BadNumber ?kk_xi_NoTable_NothingLeft ?kk_xi_NoTable_NoTable ?kk_xi_NoTable_BadLog ?kk_xi_NoTable_NoProduct ?kk_xi_NoTable_NotKept ?kk_xi_NoTable_TooMany ?kk_xi_NoTable_BadWeight ?kk_xi_NoTable_NoPlace ?kk_xi_NoTable_BadDependence ?kk_xi_NoTable_BadColumns ?kk_xi_NotKept_MeanError ?kk_xi_NotKept_BadText ?kk_xi_NotKept_BadLevel ?kk_xi_NotKept_BadRow ?kk_xi_NotKept_BadSet ?kk_xi_NotKept_BadNumber ?kk_xi_NotKept_NothingLeft ?kk_xi_NotKept_NoTable ?kk_xi_NotKept_BadLog ?kk_xi_NotKept_NoProduct ?kk_xi_NotKept_NotKept ?kk_xi_NotKept_TooMany ?kk_xi_NotKept_BadWeight ?kk_xi_NotKept_NoPlace ?kk_xi_NotKept_BadDependence ?kk_xi_NotKept_BadColumns ?kk_xi_NothingLeft_MeanError ?kk_xi_NothingLeft_BadText ?kk_xi_NothingLeft_BadLevel ?kk_xi_NothingLeft_BadRow ?kk_xi_NothingLeft_BadSet ?kk_xi_NothingLeft_BadNumber ?kk_xi_NothingLeft_NothingLeft ?kk_xi_NothingLeft_NoTable ?kk_xi_NothingLeft_BadLog ?kk_xi_NothingLeft_NoProduct ?kk_xi_NothingLeft_NotKept ?kk_xi_NothingLeft_TooMany ?kk_xi_NothingLeft_BadWeight ?kk_xi_NothingLeft_NoPlace ?kk_xi_NothingLeft_BadDependence ?kk_xi_NothingLeft_BadColumns ?kk_xi_TooMany_MeanError ?kk_xi_TooMany_BadText ?kk_xi_TooMany_BadLevel ?kk_xi_TooMany_BadRow ?kk_xi_TooMany_BadSet ?kk_xi_TooMany_BadNumber ?kk_xi_TooMany_NothingLeft ?kk_xi_TooMany_NoTable ?kk_xi_TooMany_BadLog ?kk_xi_TooMany_NoProduct ?kk_xi_TooMany_NotKept ?kk_xi_TooMany_TooMany ?kk_xi_TooMany_BadWeight ?kk_xi_TooMany_NoPlace ?kk_xi_TooMany_BadDependence ?kk_xi_TooMany_BadColumns ?kk_xi_ValueError_MeanError ?kk_xi_ValueError_BadText ?kk_xi_ValueError_BadLevel ?kk_xi_ValueError_BadRow ?kk_xi_ValueError_BadSet ?kk_xi_ValueError_BadNumber ?kk_xi_ValueError_NothingLeft ?kk_xi_ValueError_NoTable ?kk_xi_ValueError_BadLog ?kk_xi_ValueError_NoProduct ?kk_xi_ValueError_NotKept ?kk_xi_ValueError_TooMany ?kk_xi_ValueError_BadWeight ?kk_xi_ValueError_NoPlace ?kk_xi_ValueError_BadDependence ?kk_xi_ValueError_BadColumns ?hn0 ?ht0 ?ki_MeanError_NoneType ?ki_MeanError_bool ?ki_MeanError_int ?ki_MeanError_str ?ki_MeanError_tuple ?ki_MeanError_list ?ki_MeanError_dict ?ki_NothingLeft_NoneType ?ki_NothingLeft_bool ?ki_NothingLeft_int ?ki_NothingLeft_str ?ki_NothingLeft_tuple ?ki_NothingLeft_list ?ki_NothingLeft_dict ?ki_NoTable_NoneType ?ki_NoTable_bool ?ki_NoTable_int ?ki_NoTable_str ?ki_NoTable_tuple ?ki_NoTable_list ?ki_NoTable_dict ?ki_BadText_NoneType ?ki_BadText_bool ?ki_BadText_int ?ki_BadText_str ?ki_BadText_tuple ?ki_BadText_list ?ki_BadText_dict ?ki_BadLog_NoneType ?ki_BadLog_bool ?ki_BadLog_int ?ki_BadLog_str ?ki_BadLog_tuple ?ki_BadLog_list ?ki_BadLog_dict ?ki_NoProduct_NoneType ?ki_NoProduct_bool ?ki_NoProduct_int ?ki_NoProduct_str ?ki_NoProduct_tuple ?ki_NoProduct_list ?ki_NoProduct_dict ?ki_NotKept_NoneType ?ki_NotKept_bool ?ki_NotKept_int ?ki_NotKept_str ?ki_NotKept_tuple ?ki_NotKept_list ?ki_NotKept_dict ?ki_TooMany_NoneType ?ki_TooMany_bool ?ki_TooMany_int ?ki_TooMany_str ?ki_TooMany_tuple ?ki_TooMany_list ?ki_TooMany_dict ?ki_BadLevel_NoneType ?ki_BadLevel_bool ?ki_BadLevel_int ?ki_BadLevel_str ?ki_BadLevel_tuple ?ki_BadLevel_list ?ki_BadLevel_dict ?ki_BadWeight_NoneType ?ki_BadWeight_bool ?ki_BadWeight_int ?ki_BadWeight_str ?ki_BadWeight_tuple ?ki_BadWeight_list ?ki_BadWeight_dict ?ki_NoPlace_NoneType ?ki_NoPlace_bool ?ki_NoPlace_int ?ki_NoPlace_str ?ki_NoPlace_tuple ?ki_NoPlace_list ?ki_NoPlace_dict ?ki_BadRow_NoneType ?ki_BadRow_bool ?ki_BadRow_int ?ki_BadRow_str ?ki_BadRow_tuple ?ki_BadRow_list ?ki_BadRow_dict ?ki_BadDependence_NoneType ?ki_BadDependence_bool ?ki_BadDependence_int ?ki_BadDependence_str ?ki_BadDependence_tuple ?ki_BadDependence_list ?ki_BadDependence_dict ?ki_BadSet_NoneType ?ki_BadSet_bool ?ki_BadSet_int ?ki_BadSet_str ?ki_BadSet_tuple ?ki_BadSet_list ?ki_BadSet_dict ?ki_BadColumns_NoneType ?ki_BadColumns_bool ?ki_BadColumns_int ?ki_BadColumns_str ?ki_BadColumns_tuple ?ki_BadColumns_list ?ki_BadColumns_dict ?ki_BadNumber_NoneType ?ki_BadNumber_bool ?ki_BadNumber_int ?ki_BadNumber_str ?ki_BadNumber_tuple ?ki_BadNumber_list ?ki_BadNumber_dict ?z_ValueError ?z_abs ?z_enumerate ?z_int ?z_isinstance ?z_len ?z_min ?z_range ?z_repr ?a_law_begun ?l_law_begun ?c_law_begun ?k_law_begun ?a_law_kinds ?l_law_kinds ?c_law_kinds ?k_law_kinds ?a_law_mixed ?l_law_mixed ?c_law_mixed ?k_law_mixed ?a_law_take ?l_law_take ?c_law_take ?k_law_take ?a_law_pick ?l_law_pick ?c_law_pick ?k_law_pick ?a_law_odd ?l_law_odd ?c_law_odd ?k_law_odd ?a_law ?l_law ?c_law ?k_law KL.law_true
    (case aC_MeanError => k_is)
    (case aC_BadNumber => k_is)
    (case aC_BadColumns => k_is)
    (case aC_BadSet => k_is)
    (case aC_BadDependence => k_is)
    (case aC_BadRow => k_is)
    (case aC_NoPlace => k_is)
    (case aC_BadWeight => k_is)
    (case aC_BadLevel => k_is)
    (case aC_TooMany => k_is)
    (case aC_NotKept => k_is)
    (case aC_NoProduct => k_is)
    (case aC_BadLog => k_is)
    (case aC_BadText => k_is)
    (case aC_NoTable => k_is)
    (case aC_NothingLeft => k_is)
    (case xei_MeanError => kernel_rfl)
    (case xkc_MeanError => k_is)
    (case xex_MeanError => k_is)
    (case xga_MeanError => k_is)
    (case xgt_MeanError => k_is)
    (case xhd_MeanError => k_is)
    (case xha_MeanError => k_is)
    (case xmr_MeanError => k_is)
    (case xei_NothingLeft => kernel_rfl)
    (case xkc_NothingLeft => k_is)
    (case xex_NothingLeft => k_is)
    (case xga_NothingLeft => k_is)
    (case xgt_NothingLeft => k_is)
    (case xhd_NothingLeft => k_is)
    (case xha_NothingLeft => k_is)
    (case xmr_NothingLeft => k_is)
    (case xei_NoTable => kernel_rfl)
    (case xkc_NoTable => k_is)
    (case xex_NoTable => k_is)
    (case xga_NoTable => k_is)
    (case xgt_NoTable => k_is)
    (case xhd_NoTable => k_is)
    (case xha_NoTable => k_is)
    (case xmr_NoTable => k_is)
    (case lk_BadText => k_is)
    (case ki_rv_BadText => kernel_rfl)
    (case xsa_BadText => k_is)
    (case xex_BadText => k_is)
    (case xty_BadText => k_is)
    (case xkc_BadText => k_is)
    (case xga_BadText => k_is)
    (case xgt_BadText => k_is)
    (case xhd_BadText => k_is)
    (case xha_BadText => k_is)
    (case xmr_BadText => k_is)
    (case xno_BadText => k_is)
    (case a_BadText_init => k_is)
    (case xti_BadText_init => k_is)
    (case l_BadText_init => k_is)
    (case c_BadText_init => k_is)
    (case k_BadText_init => k_is)
    (case lk_BadLevel => k_is)
    (case ki_rv_BadLevel => kernel_rfl)
    (case xsa_BadLevel => k_is)
    (case xex_BadLevel => k_is)
    (case xty_BadLevel => k_is)
    (case xkc_BadLevel => k_is)
    (case xga_BadLevel => k_is)
    (case xgt_BadLevel => k_is)
    (case xhd_BadLevel => k_is)
    (case xha_BadLevel => k_is)
    (case xmr_BadLevel => k_is)
    (case xno_BadLevel => k_is)
    (case a_BadLevel_init => k_is)
    (case xti_BadLevel_init => k_is)
    (case l_BadLevel_init => k_is)
    (case c_BadLevel_init => k_is)
    (case k_BadLevel_init => k_is)
    (case lk_BadRow => k_is)
    (case ki_rv_BadRow => kernel_rfl)
    (case xsa_BadRow => k_is)
    (case xex_BadRow => k_is)
    (case xty_BadRow => k_is)
    (case xkc_BadRow => k_is)
    (case xga_BadRow => k_is)
    (case xgt_BadRow => k_is)
    (case xhd_BadRow => k_is)
    (case xha_BadRow => k_is)
    (case xmr_BadRow => k_is)
    (case xno_BadRow => k_is)
    (case a_BadRow_init => k_is)
    (case xti_BadRow_init => k_is)
    (case l_BadRow_init => k_is)
    (case c_BadRow_init => k_is)
    (case k_BadRow_init => k_is)
    (case lk_BadSet => k_is)
    (case ki_rv_BadSet => kernel_rfl)
    (case xsa_BadSet => k_is)
    (case xex_BadSet => k_is)
    (case xty_BadSet => k_is)
    (case xkc_BadSet => k_is)
    (case xga_BadSet => k_is)
    (case xgt_BadSet => k_is)
    (case xhd_BadSet => k_is)
    (case xha_BadSet => k_is)
    (case xmr_BadSet => k_is)
    (case xno_BadSet => k_is)
    (case a_BadSet_init => k_is)
    (case xti_BadSet_init => k_is)
    (case l_BadSet_init => k_is)
    (case c_BadSet_init => k_is)
    (case k_BadSet_init => k_is)
    (case lk_BadNumber => k_is)
    (case ki_rv_BadNumber => kernel_rfl)
    (case xsa_BadNumber => k_is)
    (case xex_BadNumber => k_is)
    (case xty_BadNumber => k_is)
    (case xkc_BadNumber => k_is)
    (case xga_BadNumber => k_is)
    (case xgt_BadNumber => k_is)
    (case xhd_BadNumber => k_is)
    (case xha_BadNumber => k_is)
    (case xmr_BadNumber => k_is)
    (case xno_BadNumber => k_is)
    (case a_BadNumber_init => k_is)
    (case xti_BadNumber_init => k_is)
    (case l_BadNumber_init => k_is)
    (case c_BadNumber_init => k_is)
    (case k_BadNumber_init => k_is)
    (case lk_BadLog => k_is)
    (case ki_rv_BadLog => kernel_rfl)
    (case xsa_BadLog => k_is)
    (case xex_BadLog => k_is)
    (case xty_BadLog => k_is)
    (case xkc_BadLog => k_is)
    (case xga_BadLog => k_is)
    (case xgt_BadLog => k_is)
    (case xhd_BadLog => k_is)
    (case xha_BadLog => k_is)
    (case xmr_BadLog => k_is)
    (case xno_BadLog => k_is)
    (case a_BadLog_init => k_is)
    (case xti_BadLog_init => k_is)
    (case l_BadLog_init => k_is)
    (case c_BadLog_init => k_is)
    (case k_BadLog_init => k_is)
    (case lk_NoProduct => k_is)
    (case ki_rv_NoProduct => kernel_rfl)
    (case xsa_NoProduct => k_is)
    (case xex_NoProduct => k_is)
    (case xty_NoProduct => k_is)
    (case xkc_NoProduct => k_is)
    (case xga_NoProduct => k_is)
    (case xgt_NoProduct => k_is)
    (case xhd_NoProduct => k_is)
    (case xha_NoProduct => k_is)
    (case xmr_NoProduct => k_is)
    (case xno_NoProduct => k_is)
    (case a_NoProduct_init => k_is)
    (case xti_NoProduct_init => k_is)
    (case l_NoProduct_init => k_is)
    (case c_NoProduct_init => k_is)
    (case k_NoProduct_init => k_is)
    (case lk_NotKept => k_is)
    (case ki_rv_NotKept => kernel_rfl)
    (case xsa_NotKept => k_is)
    (case xex_NotKept => k_is)
    (case xty_NotKept => k_is)
    (case xkc_NotKept => k_is)
    (case xga_NotKept => k_is)
    (case xgt_NotKept => k_is)
    (case xhd_NotKept => k_is)
    (case xha_NotKept => k_is)
    (case xmr_NotKept => k_is)
    (case xno_NotKept => k_is)
    (case a_NotKept_init => k_is)
    (case xti_NotKept_init => k_is)
    (case l_NotKept_init => k_is)
    (case c_NotKept_init => k_is)
    (case k_NotKept_init => k_is)
    (case lk_TooMany => k_is)
    (case ki_rv_TooMany => kernel_rfl)
    (case xsa_TooMany => k_is)
    (case xex_TooMany => k_is)
    (case xty_TooMany => k_is)
    (case xkc_TooMany => k_is)
    (case xga_TooMany => k_is)
    (case xgt_TooMany => k_is)
    (case xhd_TooMany => k_is)
    (case xha_TooMany => k_is)
    (case xmr_TooMany => k_is)
    (case xno_TooMany => k_is)
    (case a_TooMany_init => k_is)
    (case xti_TooMany_init => k_is)
    (case l_TooMany_init => k_is)
    (case c_TooMany_init => k_is)
    (case k_TooMany_init => k_is)
    (case lk_BadWeight => k_is)
    (case ki_rv_BadWeight => kernel_rfl)
    (case xsa_BadWeight => k_is)
    (case xex_BadWeight => k_is)
    (case xty_BadWeight => k_is)
    (case xkc_BadWeight => k_is)
    (case xga_BadWeight => k_is)
    (case xgt_BadWeight => k_is)
    (case xhd_BadWeight => k_is)
    (case xha_BadWeight => k_is)
    (case xmr_BadWeight => k_is)
    (case xno_BadWeight => k_is)
    (case a_BadWeight_init => k_is)
    (case xti_BadWeight_init => k_is)
    (case l_BadWeight_init => k_is)
    (case c_BadWeight_init => k_is)
    (case k_BadWeight_init => k_is)
    (case lk_NoPlace => k_is)
    (case ki_rv_NoPlace => kernel_rfl)
    (case xsa_NoPlace => k_is)
    (case xex_NoPlace => k_is)
    (case xty_NoPlace => k_is)
    (case xkc_NoPlace => k_is)
    (case xga_NoPlace => k_is)
    (case xgt_NoPlace => k_is)
    (case xhd_NoPlace => k_is)
    (case xha_NoPlace => k_is)
    (case xmr_NoPlace => k_is)
    (case xno_NoPlace => k_is)
    (case a_NoPlace_init => k_is)
    (case xti_NoPlace_init => k_is)
    (case l_NoPlace_init => k_is)
    (case c_NoPlace_init => k_is)
    (case k_NoPlace_init => k_is)
    (case lk_BadDependence => k_is)
    (case ki_rv_BadDependence => kernel_rfl)
    (case xsa_BadDependence => k_is)
    (case xex_BadDependence => k_is)
    (case xty_BadDependence => k_is)
    (case xkc_BadDependence => k_is)
    (case xga_BadDependence => k_is)
    (case xgt_BadDependence => k_is)
    (case xhd_BadDependence => k_is)
    (case xha_BadDependence => k_is)
    (case xmr_BadDependence => k_is)
    (case xno_BadDependence => k_is)
    (case a_BadDependence_init => k_is)
    (case xti_BadDependence_init => k_is)
    (case l_BadDependence_init => k_is)
    (case c_BadDependence_init => k_is)
    (case k_BadDependence_init => k_is)
    (case lk_BadColumns => k_is)
    (case ki_rv_BadColumns => kernel_rfl)
    (case xsa_BadColumns => k_is)
    (case xex_BadColumns => k_is)
    (case xty_BadColumns => k_is)
    (case xkc_BadColumns => k_is)
    (case xga_BadColumns => k_is)
    (case xgt_BadColumns => k_is)
    (case xhd_BadColumns => k_is)
    (case xha_BadColumns => k_is)
    (case xmr_BadColumns => k_is)
    (case xno_BadColumns => k_is)
    (case a_BadColumns_init => k_is)
    (case xti_BadColumns_init => k_is)
    (case l_BadColumns_init => k_is)
    (case c_BadColumns_init => k_is)
    (case k_BadColumns_init => k_is)
    (case kk_xi_BadColumns_MeanError => kernel_rfl)
    (case kk_xi_BadColumns_BadText => kernel_rfl)
    (case kk_xi_BadColumns_BadLevel => kernel_rfl)
    (case kk_xi_BadColumns_BadRow => kernel_rfl)
    (case kk_xi_BadColumns_BadSet => kernel_rfl)
    (case kk_xi_BadColumns_BadNumber => kernel_rfl)
    (case kk_xi_BadColumns_NothingLeft => kernel_rfl)
    (case kk_xi_BadColumns_NoTable => kernel_rfl)
    (case kk_xi_BadColumns_BadLog => kernel_rfl)
    (case kk_xi_BadColumns_NoProduct => kernel_rfl)
    (case kk_xi_BadColumns_NotKept => kernel_rfl)
    (case kk_xi_BadColumns_TooMany => kernel_rfl)
    (case kk_xi_BadColumns_BadWeight => kernel_rfl)
    (case kk_xi_BadColumns_NoPlace => kernel_rfl)
    (case kk_xi_BadColumns_BadDependence => kernel_rfl)
    (case kk_xi_BadColumns_BadColumns => kernel_rfl)
    (case kk_xi_BadDependence_MeanError => kernel_rfl)
    (case kk_xi_BadDependence_BadText => kernel_rfl)
    (case kk_xi_BadDependence_BadLevel => kernel_rfl)
    (case kk_xi_BadDependence_BadRow => kernel_rfl)
    (case kk_xi_BadDependence_BadSet => kernel_rfl)
    (case kk_xi_BadDependence_BadNumber => kernel_rfl)
    (case kk_xi_BadDependence_NothingLeft => kernel_rfl)
    (case kk_xi_BadDependence_NoTable => kernel_rfl)
    (case kk_xi_BadDependence_BadLog => kernel_rfl)
    (case kk_xi_BadDependence_NoProduct => kernel_rfl)
    (case kk_xi_BadDependence_NotKept => kernel_rfl)
    (case kk_xi_BadDependence_TooMany => kernel_rfl)
    (case kk_xi_BadDependence_BadWeight => kernel_rfl)
    (case kk_xi_BadDependence_NoPlace => kernel_rfl)
    (case kk_xi_BadDependence_BadDependence => kernel_rfl)
    (case kk_xi_BadDependence_BadColumns => kernel_rfl)
    (case kk_xi_BadLevel_MeanError => kernel_rfl)
    (case kk_xi_BadLevel_BadText => kernel_rfl)
    (case kk_xi_BadLevel_BadLevel => kernel_rfl)
    (case kk_xi_BadLevel_BadRow => kernel_rfl)
    (case kk_xi_BadLevel_BadSet => kernel_rfl)
    (case kk_xi_BadLevel_BadNumber => kernel_rfl)
    (case kk_xi_BadLevel_NothingLeft => kernel_rfl)
    (case kk_xi_BadLevel_NoTable => kernel_rfl)
    (case kk_xi_BadLevel_BadLog => kernel_rfl)
    (case kk_xi_BadLevel_NoProduct => kernel_rfl)
    (case kk_xi_BadLevel_NotKept => kernel_rfl)
    (case kk_xi_BadLevel_TooMany => kernel_rfl)
    (case kk_xi_BadLevel_BadWeight => kernel_rfl)
    (case kk_xi_BadLevel_NoPlace => kernel_rfl)
    (case kk_xi_BadLevel_BadDependence => kernel_rfl)
    (case kk_xi_BadLevel_BadColumns => kernel_rfl)
    (case kk_xi_BadLog_MeanError => kernel_rfl)
    (case kk_xi_BadLog_BadText => kernel_rfl)
    (case kk_xi_BadLog_BadLevel => kernel_rfl)
    (case kk_xi_BadLog_BadRow => kernel_rfl)
    (case kk_xi_BadLog_BadSet => kernel_rfl)
    (case kk_xi_BadLog_BadNumber => kernel_rfl)
    (case kk_xi_BadLog_NothingLeft => kernel_rfl)
    (case kk_xi_BadLog_NoTable => kernel_rfl)
    (case kk_xi_BadLog_BadLog => kernel_rfl)
    (case kk_xi_BadLog_NoProduct => kernel_rfl)
    (case kk_xi_BadLog_NotKept => kernel_rfl)
    (case kk_xi_BadLog_TooMany => kernel_rfl)
    (case kk_xi_BadLog_BadWeight => kernel_rfl)
    (case kk_xi_BadLog_NoPlace => kernel_rfl)
    (case kk_xi_BadLog_BadDependence => kernel_rfl)
    (case kk_xi_BadLog_BadColumns => kernel_rfl)
    (case kk_xi_BadNumber_MeanError => kernel_rfl)
    (case kk_xi_BadNumber_BadText => kernel_rfl)
    (case kk_xi_BadNumber_BadLevel => kernel_rfl)
    (case kk_xi_BadNumber_BadRow => kernel_rfl)
    (case kk_xi_BadNumber_BadSet => kernel_rfl)
    (case kk_xi_BadNumber_BadNumber => kernel_rfl)
    (case kk_xi_BadNumber_NothingLeft => kernel_rfl)
    (case kk_xi_BadNumber_NoTable => kernel_rfl)
    (case kk_xi_BadNumber_BadLog => kernel_rfl)
    (case kk_xi_BadNumber_NoProduct => kernel_rfl)
    (case kk_xi_BadNumber_NotKept => kernel_rfl)
    (case kk_xi_BadNumber_TooMany => kernel_rfl)
    (case kk_xi_BadNumber_BadWeight => kernel_rfl)
    (case kk_xi_BadNumber_NoPlace => kernel_rfl)
    (case kk_xi_BadNumber_BadDependence => kernel_rfl)
    (case kk_xi_BadNumber_BadColumns => kernel_rfl)
    (case kk_xi_BadRow_MeanError => kernel_rfl)
    (case kk_xi_BadRow_BadText => kernel_rfl)
    (case kk_xi_BadRow_BadLevel => kernel_rfl)
    (case kk_xi_BadRow_BadRow => kernel_rfl)
    (case kk_xi_BadRow_BadSet => kernel_rfl)
    (case kk_xi_BadRow_BadNumber => kernel_rfl)
    (case kk_xi_BadRow_NothingLeft => kernel_rfl)
    (case kk_xi_BadRow_NoTable => kernel_rfl)
    (case kk_xi_BadRow_BadLog => kernel_rfl)
    (case kk_xi_BadRow_NoProduct => kernel_rfl)
    (case kk_xi_BadRow_NotKept => kernel_rfl)
    (case kk_xi_BadRow_TooMany => kernel_rfl)
    (case kk_xi_BadRow_BadWeight => kernel_rfl)
    (case kk_xi_BadRow_NoPlace => kernel_rfl)
    (case kk_xi_BadRow_BadDependence => kernel_rfl)
    (case kk_xi_BadRow_BadColumns => kernel_rfl)
    (case kk_xi_BadSet_MeanError => kernel_rfl)
    (case kk_xi_BadSet_BadText => kernel_rfl)
    (case kk_xi_BadSet_BadLevel => kernel_rfl)
    (case kk_xi_BadSet_BadRow => kernel_rfl)
    (case kk_xi_BadSet_BadSet => kernel_rfl)
    (case kk_xi_BadSet_BadNumber => kernel_rfl)
    (case kk_xi_BadSet_NothingLeft => kernel_rfl)
    (case kk_xi_BadSet_NoTable => kernel_rfl)
    (case kk_xi_BadSet_BadLog => kernel_rfl)
    (case kk_xi_BadSet_NoProduct => kernel_rfl)
    (case kk_xi_BadSet_NotKept => kernel_rfl)
    (case kk_xi_BadSet_TooMany => kernel_rfl)
    (case kk_xi_BadSet_BadWeight => kernel_rfl)
    (case kk_xi_BadSet_NoPlace => kernel_rfl)
    (case kk_xi_BadSet_BadDependence => kernel_rfl)
    (case kk_xi_BadSet_BadColumns => kernel_rfl)
    (case kk_xi_BadText_MeanError => kernel_rfl)
    (case kk_xi_BadText_BadText => kernel_rfl)
    (case kk_xi_BadText_BadLevel => kernel_rfl)
    (case kk_xi_BadText_BadRow => kernel_rfl)
    (case kk_xi_BadText_BadSet => kernel_rfl)
    (case kk_xi_BadText_BadNumber => kernel_rfl)
    (case kk_xi_BadText_NothingLeft => kernel_rfl)
    (case kk_xi_BadText_NoTable => kernel_rfl)
    (case kk_xi_BadText_BadLog => kernel_rfl)
    (case kk_xi_BadText_NoProduct => kernel_rfl)
    (case kk_xi_BadText_NotKept => kernel_rfl)
    (case kk_xi_BadText_TooMany => kernel_rfl)
    (case kk_xi_BadText_BadWeight => kernel_rfl)
    (case kk_xi_BadText_NoPlace => kernel_rfl)
    (case kk_xi_BadText_BadDependence => kernel_rfl)
    (case kk_xi_BadText_BadColumns => kernel_rfl)
    (case kk_xi_BadWeight_MeanError => kernel_rfl)
    (case kk_xi_BadWeight_BadText => kernel_rfl)
    (case kk_xi_BadWeight_BadLevel => kernel_rfl)
    (case kk_xi_BadWeight_BadRow => kernel_rfl)
    (case kk_xi_BadWeight_BadSet => kernel_rfl)
    (case kk_xi_BadWeight_BadNumber => kernel_rfl)
    (case kk_xi_BadWeight_NothingLeft => kernel_rfl)
    (case kk_xi_BadWeight_NoTable => kernel_rfl)
    (case kk_xi_BadWeight_BadLog => kernel_rfl)
    (case kk_xi_BadWeight_NoProduct => kernel_rfl)
    (case kk_xi_BadWeight_NotKept => kernel_rfl)
    (case kk_xi_BadWeight_TooMany => kernel_rfl)
    (case kk_xi_BadWeight_BadWeight => kernel_rfl)
    (case kk_xi_BadWeight_NoPlace => kernel_rfl)
    (case kk_xi_BadWeight_BadDependence => kernel_rfl)
    (case kk_xi_BadWeight_BadColumns => kernel_rfl)
    (case kk_xi_MeanError_MeanError => kernel_rfl)
    (case kk_xi_MeanError_BadText => kernel_rfl)
    (case kk_xi_MeanError_BadLevel => kernel_rfl)
    (case kk_xi_MeanError_BadRow => kernel_rfl)
    (case kk_xi_MeanError_BadSet => kernel_rfl)
    (case kk_xi_MeanError_BadNumber => kernel_rfl)
    (case kk_xi_MeanError_NothingLeft => kernel_rfl)
    (case kk_xi_MeanError_NoTable => kernel_rfl)
    (case kk_xi_MeanError_BadLog => kernel_rfl)
    (case kk_xi_MeanError_NoProduct => kernel_rfl)
    (case kk_xi_MeanError_NotKept => kernel_rfl)
    (case kk_xi_MeanError_TooMany => kernel_rfl)
    (case kk_xi_MeanError_BadWeight => kernel_rfl)
    (case kk_xi_MeanError_NoPlace => kernel_rfl)
    (case kk_xi_MeanError_BadDependence => kernel_rfl)
    (case kk_xi_MeanError_BadColumns => kernel_rfl)
    (case kk_xi_NoPlace_MeanError => kernel_rfl)
    (case kk_xi_NoPlace_BadText => kernel_rfl)
    (case kk_xi_NoPlace_BadLevel => kernel_rfl)
    (case kk_xi_NoPlace_BadRow => kernel_rfl)
    (case kk_xi_NoPlace_BadSet => kernel_rfl)
    (case kk_xi_NoPlace_BadNumber => kernel_rfl)
    (case kk_xi_NoPlace_NothingLeft => kernel_rfl)
    (case kk_xi_NoPlace_NoTable => kernel_rfl)
    (case kk_xi_NoPlace_BadLog => kernel_rfl)
    (case kk_xi_NoPlace_NoProduct => kernel_rfl)
    (case kk_xi_NoPlace_NotKept => kernel_rfl)
    (case kk_xi_NoPlace_TooMany => kernel_rfl)
    (case kk_xi_NoPlace_BadWeight => kernel_rfl)
    (case kk_xi_NoPlace_NoPlace => kernel_rfl)
    (case kk_xi_NoPlace_BadDependence => kernel_rfl)
    (case kk_xi_NoPlace_BadColumns => kernel_rfl)
    (case kk_xi_NoProduct_MeanError => kernel_rfl)
    (case kk_xi_NoProduct_BadText => kernel_rfl)
    (case kk_xi_NoProduct_BadLevel => kernel_rfl)
    (case kk_xi_NoProduct_BadRow => kernel_rfl)
    (case kk_xi_NoProduct_BadSet => kernel_rfl)
    (case kk_xi_NoProduct_BadNumber => kernel_rfl)
    (case kk_xi_NoProduct_NothingLeft => kernel_rfl)
    (case kk_xi_NoProduct_NoTable => kernel_rfl)
    (case kk_xi_NoProduct_BadLog => kernel_rfl)
    (case kk_xi_NoProduct_NoProduct => kernel_rfl)
    (case kk_xi_NoProduct_NotKept => kernel_rfl)
    (case kk_xi_NoProduct_TooMany => kernel_rfl)
    (case kk_xi_NoProduct_BadWeight => kernel_rfl)
    (case kk_xi_NoProduct_NoPlace => kernel_rfl)
    (case kk_xi_NoProduct_BadDependence => kernel_rfl)
    (case kk_xi_NoProduct_BadColumns => kernel_rfl)
    (case kk_xi_NoTable_MeanError => kernel_rfl)
    (case kk_xi_NoTable_BadText => kernel_rfl)
    (case kk_xi_NoTable_BadLevel => kernel_rfl)
    (case kk_xi_NoTable_BadRow => kernel_rfl)
    (case kk_xi_NoTable_BadSet => kernel_rfl)
    (case kk_xi_NoTable_BadNumber => kernel_rfl)
    (case kk_xi_NoTable_NothingLeft => kernel_rfl)
    (case kk_xi_NoTable_NoTable => kernel_rfl)
    (case kk_xi_NoTable_BadLog => kernel_rfl)
    (case kk_xi_NoTable_NoProduct => kernel_rfl)
    (case kk_xi_NoTable_NotKept => kernel_rfl)
    (case kk_xi_NoTable_TooMany => kernel_rfl)
    (case kk_xi_NoTable_BadWeight => kernel_rfl)
    (case kk_xi_NoTable_NoPlace => kernel_rfl)
    (case kk_xi_NoTable_BadDependence => kernel_rfl)
    (case kk_xi_NoTable_BadColumns => kernel_rfl)
    (case kk_xi_NotKept_MeanError => kernel_rfl)
    (case kk_xi_NotKept_BadText => kernel_rfl)
    (case kk_xi_NotKept_BadLevel => kernel_rfl)
    (case kk_xi_NotKept_BadRow => kernel_rfl)
    (case kk_xi_NotKept_BadSet => kernel_rfl)
    (case kk_xi_NotKept_BadNumber => kernel_rfl)
    (case kk_xi_NotKept_NothingLeft => kernel_rfl)
    (case kk_xi_NotKept_NoTable => kernel_rfl)
    (case kk_xi_NotKept_BadLog => kernel_rfl)
    (case kk_xi_NotKept_NoProduct => kernel_rfl)
    (case kk_xi_NotKept_NotKept => kernel_rfl)
    (case kk_xi_NotKept_TooMany => kernel_rfl)
    (case kk_xi_NotKept_BadWeight => kernel_rfl)
    (case kk_xi_NotKept_NoPlace => kernel_rfl)
    (case kk_xi_NotKept_BadDependence => kernel_rfl)
    (case kk_xi_NotKept_BadColumns => kernel_rfl)
    (case kk_xi_NothingLeft_MeanError => kernel_rfl)
    (case kk_xi_NothingLeft_BadText => kernel_rfl)
    (case kk_xi_NothingLeft_BadLevel => kernel_rfl)
    (case kk_xi_NothingLeft_BadRow => kernel_rfl)
    (case kk_xi_NothingLeft_BadSet => kernel_rfl)
    (case kk_xi_NothingLeft_BadNumber => kernel_rfl)
    (case kk_xi_NothingLeft_NothingLeft => kernel_rfl)
    (case kk_xi_NothingLeft_NoTable => kernel_rfl)
    (case kk_xi_NothingLeft_BadLog => kernel_rfl)
    (case kk_xi_NothingLeft_NoProduct => kernel_rfl)
    (case kk_xi_NothingLeft_NotKept => kernel_rfl)
    (case kk_xi_NothingLeft_TooMany => kernel_rfl)
    (case kk_xi_NothingLeft_BadWeight => kernel_rfl)
    (case kk_xi_NothingLeft_NoPlace => kernel_rfl)
    (case kk_xi_NothingLeft_BadDependence => kernel_rfl)
    (case kk_xi_NothingLeft_BadColumns => kernel_rfl)
    (case kk_xi_TooMany_MeanError => kernel_rfl)
    (case kk_xi_TooMany_BadText => kernel_rfl)
    (case kk_xi_TooMany_BadLevel => kernel_rfl)
    (case kk_xi_TooMany_BadRow => kernel_rfl)
    (case kk_xi_TooMany_BadSet => kernel_rfl)
    (case kk_xi_TooMany_BadNumber => kernel_rfl)
    (case kk_xi_TooMany_NothingLeft => kernel_rfl)
    (case kk_xi_TooMany_NoTable => kernel_rfl)
    (case kk_xi_TooMany_BadLog => kernel_rfl)
    (case kk_xi_TooMany_NoProduct => kernel_rfl)
    (case kk_xi_TooMany_NotKept => kernel_rfl)
    (case kk_xi_TooMany_TooMany => kernel_rfl)
    (case kk_xi_TooMany_BadWeight => kernel_rfl)
    (case kk_xi_TooMany_NoPlace => kernel_rfl)
    (case kk_xi_TooMany_BadDependence => kernel_rfl)
    (case kk_xi_TooMany_BadColumns => kernel_rfl)
    (case kk_xi_ValueError_MeanError => kernel_rfl)
    (case kk_xi_ValueError_BadText => kernel_rfl)
    (case kk_xi_ValueError_BadLevel => kernel_rfl)
    (case kk_xi_ValueError_BadRow => kernel_rfl)
    (case kk_xi_ValueError_BadSet => kernel_rfl)
    (case kk_xi_ValueError_BadNumber => kernel_rfl)
    (case kk_xi_ValueError_NothingLeft => kernel_rfl)
    (case kk_xi_ValueError_NoTable => kernel_rfl)
    (case kk_xi_ValueError_BadLog => kernel_rfl)
    (case kk_xi_ValueError_NoProduct => kernel_rfl)
    (case kk_xi_ValueError_NotKept => kernel_rfl)
    (case kk_xi_ValueError_TooMany => kernel_rfl)
    (case kk_xi_ValueError_BadWeight => kernel_rfl)
    (case kk_xi_ValueError_NoPlace => kernel_rfl)
    (case kk_xi_ValueError_BadDependence => kernel_rfl)
    (case kk_xi_ValueError_BadColumns => kernel_rfl)
    (case hn0 => k_is)
    (case ht0 => k_is)
    (case ki_MeanError_NoneType => kernel_rfl)
    (case ki_MeanError_bool => kernel_rfl)
    (case ki_MeanError_int => kernel_rfl)
    (case ki_MeanError_str => kernel_rfl)
    (case ki_MeanError_tuple => kernel_rfl)
    (case ki_MeanError_list => kernel_rfl)
    (case ki_MeanError_dict => kernel_rfl)
    (case ki_NothingLeft_NoneType => kernel_rfl)
    (case ki_NothingLeft_bool => kernel_rfl)
    (case ki_NothingLeft_int => kernel_rfl)
    (case ki_NothingLeft_str => kernel_rfl)
    (case ki_NothingLeft_tuple => kernel_rfl)
    (case ki_NothingLeft_list => kernel_rfl)
    (case ki_NothingLeft_dict => kernel_rfl)
    (case ki_NoTable_NoneType => kernel_rfl)
    (case ki_NoTable_bool => kernel_rfl)
    (case ki_NoTable_int => kernel_rfl)
    (case ki_NoTable_str => kernel_rfl)
    (case ki_NoTable_tuple => kernel_rfl)
    (case ki_NoTable_list => kernel_rfl)
    (case ki_NoTable_dict => kernel_rfl)
    (case ki_BadText_NoneType => kernel_rfl)
    (case ki_BadText_bool => kernel_rfl)
    (case ki_BadText_int => kernel_rfl)
    (case ki_BadText_str => kernel_rfl)
    (case ki_BadText_tuple => kernel_rfl)
    (case ki_BadText_list => kernel_rfl)
    (case ki_BadText_dict => kernel_rfl)
    (case ki_BadLog_NoneType => kernel_rfl)
    (case ki_BadLog_bool => kernel_rfl)
    (case ki_BadLog_int => kernel_rfl)
    (case ki_BadLog_str => kernel_rfl)
    (case ki_BadLog_tuple => kernel_rfl)
    (case ki_BadLog_list => kernel_rfl)
    (case ki_BadLog_dict => kernel_rfl)
    (case ki_NoProduct_NoneType => kernel_rfl)
    (case ki_NoProduct_bool => kernel_rfl)
    (case ki_NoProduct_int => kernel_rfl)
    (case ki_NoProduct_str => kernel_rfl)
    (case ki_NoProduct_tuple => kernel_rfl)
    (case ki_NoProduct_list => kernel_rfl)
    (case ki_NoProduct_dict => kernel_rfl)
    (case ki_NotKept_NoneType => kernel_rfl)
    (case ki_NotKept_bool => kernel_rfl)
    (case ki_NotKept_int => kernel_rfl)
    (case ki_NotKept_str => kernel_rfl)
    (case ki_NotKept_tuple => kernel_rfl)
    (case ki_NotKept_list => kernel_rfl)
    (case ki_NotKept_dict => kernel_rfl)
    (case ki_TooMany_NoneType => kernel_rfl)
    (case ki_TooMany_bool => kernel_rfl)
    (case ki_TooMany_int => kernel_rfl)
    (case ki_TooMany_str => kernel_rfl)
    (case ki_TooMany_tuple => kernel_rfl)
    (case ki_TooMany_list => kernel_rfl)
    (case ki_TooMany_dict => kernel_rfl)
    (case ki_BadLevel_NoneType => kernel_rfl)
    (case ki_BadLevel_bool => kernel_rfl)
    (case ki_BadLevel_int => kernel_rfl)
    (case ki_BadLevel_str => kernel_rfl)
    (case ki_BadLevel_tuple => kernel_rfl)
    (case ki_BadLevel_list => kernel_rfl)
    (case ki_BadLevel_dict => kernel_rfl)
    (case ki_BadWeight_NoneType => kernel_rfl)
    (case ki_BadWeight_bool => kernel_rfl)
    (case ki_BadWeight_int => kernel_rfl)
    (case ki_BadWeight_str => kernel_rfl)
    (case ki_BadWeight_tuple => kernel_rfl)
    (case ki_BadWeight_list => kernel_rfl)
    (case ki_BadWeight_dict => kernel_rfl)
    (case ki_NoPlace_NoneType => kernel_rfl)
    (case ki_NoPlace_bool => kernel_rfl)
    (case ki_NoPlace_int => kernel_rfl)
    (case ki_NoPlace_str => kernel_rfl)
    (case ki_NoPlace_tuple => kernel_rfl)
    (case ki_NoPlace_list => kernel_rfl)
    (case ki_NoPlace_dict => kernel_rfl)
    (case ki_BadRow_NoneType => kernel_rfl)
    (case ki_BadRow_bool => kernel_rfl)
    (case ki_BadRow_int => kernel_rfl)
    (case ki_BadRow_str => kernel_rfl)
    (case ki_BadRow_tuple => kernel_rfl)
    (case ki_BadRow_list => kernel_rfl)
    (case ki_BadRow_dict => kernel_rfl)
    (case ki_BadDependence_NoneType => kernel_rfl)
    (case ki_BadDependence_bool => kernel_rfl)
    (case ki_BadDependence_int => kernel_rfl)
    (case ki_BadDependence_str => kernel_rfl)
    (case ki_BadDependence_tuple => kernel_rfl)
    (case ki_BadDependence_list => kernel_rfl)
    (case ki_BadDependence_dict => kernel_rfl)
    (case ki_BadSet_NoneType => kernel_rfl)
    (case ki_BadSet_bool => kernel_rfl)
    (case ki_BadSet_int => kernel_rfl)
    (case ki_BadSet_str => kernel_rfl)
    (case ki_BadSet_tuple => kernel_rfl)
    (case ki_BadSet_list => kernel_rfl)
    (case ki_BadSet_dict => kernel_rfl)
    (case ki_BadColumns_NoneType => kernel_rfl)
    (case ki_BadColumns_bool => kernel_rfl)
    (case ki_BadColumns_int => kernel_rfl)
    (case ki_BadColumns_str => kernel_rfl)
    (case ki_BadColumns_tuple => kernel_rfl)
    (case ki_BadColumns_list => kernel_rfl)
    (case ki_BadColumns_dict => kernel_rfl)
    (case ki_BadNumber_NoneType => kernel_rfl)
    (case ki_BadNumber_bool => kernel_rfl)
    (case ki_BadNumber_int => kernel_rfl)
    (case ki_BadNumber_str => kernel_rfl)
    (case ki_BadNumber_tuple => kernel_rfl)
    (case ki_BadNumber_list => kernel_rfl)
    (case ki_BadNumber_dict => kernel_rfl)
    (case z_ValueError => k_is)
    (case z_abs => k_is)
    (case z_enumerate => k_is)
    (case z_int => k_is)
    (case z_isinstance => k_is)
    (case z_len => k_is)
    (case z_min => k_is)
    (case z_range => k_is)
    (case z_repr => k_is)
    (case a_law_begun => k_is)
    (case l_law_begun => k_is)
    (case c_law_begun => k_is)
    (case k_law_begun => k_is)
    (case a_law_kinds => k_is)
    (case l_law_kinds => k_is)
    (case c_law_kinds => k_is)
    (case k_law_kinds => k_is)
    (case a_law_mixed => k_is)
    (case l_law_mixed => k_is)
    (case c_law_mixed => k_is)
    (case k_law_mixed => k_is)
    (case a_law_take => k_is)
    (case l_law_take => k_is)
    (case c_law_take => k_is)
    (case k_law_take => k_is)
    (case a_law_pick => k_is)
    (case l_law_pick => k_is)
    (case c_law_pick => k_is)
    (case k_law_pick => k_is)
    (case a_law_odd => k_is)
    (case l_law_odd => k_is)
    (case c_law_odd => k_is)
    (case k_law_odd => k_is)
    (case a_law => k_is)
    (case l_law => k_is)
    (case c_law => k_is)
    (case k_law => k_is)

end sec_End
