import PyProof.Rows.All
import Wide.All
import OpenK.AllK
import Wide.FinOn
import HandS.ForMost
import HandS.Evl
import HandS.Lambda
import HandS.ExcValue
import HandS.IsInst
import HandS.TupAny
import HandS.Wide
import HandS.Property
import HandS.Defaults
import HandS.Style
import HandS.Set
import HandS.SetFor
import HandS.SetTxt0
import HandS.TupSets
import PyProof.Rows.SortShellAny
import PyProof.CollectStr
import HandS.SortKw
import HandS.List
import KE.SortKeyHeap
import HandS.Text
import HandS.SlotsOwn
import OpenK.KMake
import PyProof.InstEq
import HandS.Iter
import KE.GoesMore
import PyProof.EnumMake
import HandS.Dict
import PyProof.ReprRoads
import PyProof.ListStr
import HandS.Words
import HandS.EndTab
import HandS.Replace
import HandS.TupLen
import HandS.DictComp
import PyProof.DictFindH
import HandS.Conv
import KE.KDictCopyH
import HandS.Star
import HandS.Deep
import HandS.Flow
import PyProof.CallFns
import KE.SortData
import HandS.NoneIn
import PyProof.CallStr
import KE.KDictDisplayH
import HandS.ExcOwn
import HandS.ExcInit
import KE.KExcIs
import HandS.ExcField
import HandS.ExcIs
import HandS.MakeKw
import PyProof.ReprLen
import PySem.Challenge.RW_meanways_k02_fractions
set_option Elab.async false
set_option linter.all false
section sec_FD1
set_option maxRecDepth 100000
set_option maxHeartbeats 5000000
/-! FD1: plain data D, how the abstract heap holds it (Rep), the state of a running def as plain data (SR), the judgements FE, FT, FA, FS. -/
namespace FD
open PySem L2

structure Ct where
  K : PySem.W.Frag
  mg : Str → Option Value
/-- where the draws' dict, its list of wide numbers and its list of cells stand -/
structure Dr where
  at_ : Option (Addr × Addr × Addr)
  cl : List Int
def Dr.da (d : Dr) : Option Addr := d.at_.map (·.1)
/-- the tables of the code objects of the defs that make lambdas -/
structure LamSyn where
  q : Str
  params : Arguments
  body : Expr
  scope : Scope
  N : List Str
class Tabl where
  T : List (Addr × Str)
  L : Nat → Option LamSyn := fun _ => none
variable [Tabl]
def Dr.ds (d : Dr) : List Addr := match d.at_ with
  | some t => [t.1, t.2.1, t.2.2]
  | none => []
def Dr.as (d : Dr) : List Addr := d.ds ++ Tabl.T.map (·.1)
theorem Dr.tab {d : Dr} {p : Addr × Str} (h : p ∈ Tabl.T) : p.1 ∈ d.as := List.mem_append_right _ (List.mem_map.mpr ⟨p, h, rfl⟩)
theorem Dr.mem1 {d : Dr} {t : Addr × Addr × Addr} (h : d.at_ = some t) : t.1 ∈ d.as := List.mem_append_left _ (by simp [Dr.ds, h])
theorem Dr.mem2 {d : Dr} {t : Addr × Addr × Addr} (h : d.at_ = some t) : t.2.1 ∈ d.as := List.mem_append_left _ (by simp [Dr.ds, h])
theorem Dr.mem3 {d : Dr} {t : Addr × Addr × Addr} (h : d.at_ = some t) : t.2.2 ∈ d.as := List.mem_append_left _ (by simp [Dr.ds, h])

inductive D where
  | non | bl (b : Bool) | int (i : Int) | str (x : Str) | ty (n : String) | draw
  | tup (xs : List D) | ktup (xs : List D) | lst (xs : List D) | dic (kvs : List (D × D)) | dit (kvs : List (D × D)) | fdit (kvs : List (D × D)) | ins (c : Str) (fs : List (Str × D)) | scr (ns : List Int) | exc (c : Str) (fs : List (Str × D)) | lam (i : Nat) (ds : List D)
  deriving Inhabited

def kD : Key → D
  | .inl i => .int i
  | .inr x => .str x

/-- all that F tracks, G tracks too -/
def Ex (F G : Hp) : Prop := ∀ b u, F b = some u → G b = some u
theorem Ex.refl (F : Hp) : Ex F F := fun _ _ => id
theorem Ex.trans {F G J : Hp} (p : Ex F G) (q : Ex G J) : Ex F J := fun b u z => q b u (p b u z)
theorem Ex.new {F : Hp} {p : Addr} {o : HO} (n : F p = none) : Ex F (upd F p o) := fun b u z => (upd_ne (ne_of_none z n)).trans z
theorem Ex.rd {H H' : Hp} {a : Addr} {u : HO} (e : Ex H H') (h : Rd H a u) : Rd H' a u := by
  rcases h with h | ⟨o, h⟩
  · exact Or.inl (e a _ h)
  · exact Or.inr ⟨o, e a _ h⟩
theorem Ex.sl {K : PySem.W.Frag} {H H' : Hp} {a : Addr} {xs : List V} (e : Ex H H') (h : SqL K H a xs) : SqL K H' a xs := by
  rcases h with h | h
  · exact Or.inl (e.rd h)
  · exact Or.inr h
theorem Ex.st {K : PySem.W.Frag} {H H' : Hp} {a : Addr} {xs : List V} (e : Ex H H') (h : SqT K H a xs) : SqT K H' a xs := by
  rcases h with h | h
  · exact Or.inl (e.rd h)
  · exact Or.inr h
theorem Ex.free {H H' : Hp} {p : Addr} (e : Ex H H') (h : H' p = none) : H p = none := by
  cases h1 : H p with
  | none => rfl
  | some o =>
    rw [e p o h1] at h
    cases h

/-- an exception of the class at C, caught, its dict at dx -/
def EXO (a C dx : Addr) : HO := .ext fun h => ∃ (oe : PySem.Obj) (vs : Array Value), h.get? a = some oe ∧ oe.cls = .ref C ∧ oe.dict = some dx ∧ oe.data = .fields vs
/-- an object that stays as it is -/
def StO (a : Addr) (o : PySem.Obj) : HO := .ext fun h => h.get? a = some o
/-- the cells of a lambda, and what they hold -/
structure LCells (G : Hp) (l : LamSyn) (cl : List (Str × Addr)) (vs : List V) : Prop where
  inj : ∀ x y c, cl.lookup x = some c → cl.lookup y = some c → x = y
  at_ : ∀ x c, cl.lookup x = some c → ∃ o v, G c = some (StO c o) ∧ o.data = .cell v
  has : ∀ y, l.scope.names.lookup y = some .free → ∃ c, cl.lookup y = some c
  val : ∀ (j : Nat) (x : Str) (v : V), l.N[j]? = some x → vs[j]? = some v → ∃ c o u, cl.lookup x = some c ∧ G c = some (StO c o) ∧ o.data = .cell (some u) ∧ RelV v u
abbrev lamObj (l : LamSyn) (cl : List (Str × Addr)) (pm : Value) (c' : Addr) (ctv : Value) : PySem.Obj := PySem.W.kla_obj "<lambda>" l.q l.params l.body l.scope cl pm c' ctv
theorem LCells.mono {G G' : Hp} {l : LamSyn} {cl : List (Str × Addr)} {vs : List V} (e : Ex G G') (h : LCells G l cl vs) : LCells G' l cl vs :=
  ⟨h.inj, fun x c q => let ⟨o, v, a, b⟩ := h.at_ x c q; ⟨o, v, e _ _ a, b⟩, h.has, fun j x v p q => let ⟨c, o, u, a, b, d⟩ := h.val j x v p q; ⟨c, o, u, a, e _ _ b, d⟩⟩
mutual
inductive Rep (c : Ct) (da : Option Addr) (G : Hp) : V → D → Prop
  | non : Rep c da G .non .non
  | bl (b : Bool) : Rep c da G (.bl b) (.bl b)
  | int (i : Int) : Rep c da G (.int i) (.int i)
  | str (x : Str) : Rep c da G (.str x) (.str x)
  | ty (n : String) : Rep c da G (.ty n) (.ty n)
  | draw {a : Addr} : da = some a → Rep c da G (.ref a) .draw
  | tup {a : Addr} {xs : List V} {ds : List D} : G a = some (.tup xs) → RepAll c da G xs ds → Rep c da G (.ref a) (.tup ds)
  | ktup {a : Addr} {xs : List V} {ds : List D} : SqT c.K G a xs → RepAll c da G xs ds → Rep c da G (.ref a) (.ktup ds)
  | lst {a : Addr} {xs : List V} {ds : List D} : G a = some (.lst xs) → RepAll c da G xs ds → Rep c da G (.ref a) (.lst ds)
  | scr {a : Addr} {ns : List Int} : SqL c.K G a (ns.map V.int) → Rep c da G (.ref a) (.scr ns)
  | dK {a : Addr} {kvs : List (Key × V)} {ps : List (D × D)} : G a = some (.dK kvs) → RepKV c da G kvs ps → Rep c da G (.ref a) (.dic ps)
  | dT {a : Addr} {kvs : List (List Key × V)} {ps : List (D × D)} : G a = some (.dT kvs) → RepKT c da G kvs ps → Rep c da G (.ref a) (.dit ps)
  | fdT {a : Addr} {ob : Obj} {kvs : List (List Key × V)} {ps : List (D × D)} : G a = some (.frz ob (.dT kvs)) → RepKT c da G kvs ps → Rep c da G (.ref a) (.fdit ps)
  | exc {a C dx : Addr} {fs : List (Str × V)} {cn : Str} {gs : List (Str × D)} : G a = some (EXO a C dx) → G dx = some (.xd fs) → c.mg cn = some (.ref C) → RepF c da G fs gs → Rep c da G (.ref a) (.exc cn gs)
  | exo {a C : Addr} {cn : Str} : G a = some (ExO (.ref C) a) → c.mg cn = some (.ref C) → Rep c da G (.ref a) (.exc cn [])
  | ins {a C dx : Addr} {fs : List (Str × V)} {cn : Str} {gs : List (Str × D)} : G a = some (.ins C dx fs) → c.mg cn = some (.ref C) → RepF c da G fs gs → Rep c da G (.ref a) (.ins cn gs)
  | lam {f c' : Addr} {i : Nat} {l : LamSyn} {cl : List (Str × Addr)} {pm ctv : Value} {vs : List V} {ds : List D} : Tabl.L i = some l → G f = some (StO f (lamObj l cl pm c' ctv)) → G c' = some (LamX.CodeO c' l.q) → LCells G l cl vs → RepAll c da G vs ds → Rep c da G (.ref f) (.lam i ds)
inductive RepAll (c : Ct) (da : Option Addr) (G : Hp) : List V → List D → Prop
  | nil : RepAll c da G [] []
  | cons {v : V} {vs : List V} {d : D} {ds : List D} : Rep c da G v d → RepAll c da G vs ds → RepAll c da G (v :: vs) (d :: ds)
inductive RepKV (c : Ct) (da : Option Addr) (G : Hp) : List (Key × V) → List (D × D) → Prop
  | nil : RepKV c da G [] []
  | cons {k : Key} {v : V} {vs : List (Key × V)} {d : D} {ds : List (D × D)} : Rep c da G v d → RepKV c da G vs ds → RepKV c da G ((k, v) :: vs) ((kD k, d) :: ds)
inductive RepKT (c : Ct) (da : Option Addr) (G : Hp) : List (List Key × V) → List (D × D) → Prop
  | nil : RepKT c da G [] []
  | cons {k : List Key} {v : V} {vs : List (List Key × V)} {d : D} {ds : List (D × D)} : Rep c da G v d → RepKT c da G vs ds → RepKT c da G ((k, v) :: vs) ((.tup (k.map kD), d) :: ds)
inductive RepF (c : Ct) (da : Option Addr) (G : Hp) : List (Str × V) → List (Str × D) → Prop
  | nil : RepF c da G [] []
  | cons {k : Str} {v : V} {vs : List (Str × V)} {d : D} {ds : List (Str × D)} : Rep c da G v d → RepF c da G vs ds → RepF c da G ((k, v) :: vs) ((k, d) :: ds)
end

section
variable {c : Ct} {da : Option Addr} {G G' : Hp}
mutual
theorem Rep.mono (e : Ex G G') : ∀ {v : V} {d : D}, Rep c da G v d → Rep c da G' v d
  | _, _, .non => .non
  | _, _, .bl b => .bl b
  | _, _, .int i => .int i
  | _, _, .str x => .str x
  | _, _, .ty n => .ty n
  | _, _, .draw h => .draw h
  | _, _, .tup h r => .tup (e _ _ h) (RepAll.mono e r)
  | _, _, .ktup h r => .ktup (e.st h) (RepAll.mono e r)
  | _, _, .lst h r => .lst (e _ _ h) (RepAll.mono e r)
  | _, _, .scr h => .scr (e.sl h)
  | _, _, .dK h r => .dK (e _ _ h) (RepKV.mono e r)
  | _, _, .dT h r => .dT (e _ _ h) (RepKT.mono e r)
  | _, _, .fdT h r => .fdT (e _ _ h) (RepKT.mono e r)
  | _, _, .exc h h2 m r => .exc (e _ _ h) (e _ _ h2) m (RepF.mono e r)
  | _, _, .exo h m => .exo (e _ _ h) m
  | _, _, .ins h m r => .ins (e _ _ h) m (RepF.mono e r)
  | _, _, .lam t h h2 k r => .lam t (e _ _ h) (e _ _ h2) (k.mono e) (RepAll.mono e r)
theorem RepAll.mono (e : Ex G G') : ∀ {v : List V} {d : List D}, RepAll c da G v d → RepAll c da G' v d
  | _, _, .nil => .nil
  | _, _, .cons h r => .cons (Rep.mono e h) (RepAll.mono e r)
theorem RepKV.mono (e : Ex G G') : ∀ {v : List (Key × V)} {d : List (D × D)}, RepKV c da G v d → RepKV c da G' v d
  | _, _, .nil => .nil
  | _, _, .cons h r => .cons (Rep.mono e h) (RepKV.mono e r)
theorem RepKT.mono (e : Ex G G') : ∀ {v : List (List Key × V)} {d : List (D × D)}, RepKT c da G v d → RepKT c da G' v d
  | _, _, .nil => .nil
  | _, _, .cons h r => .cons (Rep.mono e h) (RepKT.mono e r)
theorem RepF.mono (e : Ex G G') : ∀ {v : List (Str × V)} {d : List (Str × D)}, RepF c da G v d → RepF c da G' v d
  | _, _, .nil => .nil
  | _, _, .cons h r => .cons (Rep.mono e h) (RepF.mono e r)
end
theorem RepAll.length : ∀ {v : List V} {d : List D}, RepAll c da G v d → v.length = d.length
  | _, _, .nil => rfl
  | _, _, .cons _ r => by simp [RepAll.length r]
theorem RepAll.get : ∀ {vs : List V} {ds : List D}, RepAll c da G vs ds → ∀ {i : Nat} {d : D}, ds[i]? = some d → ∃ v, vs[i]? = some v ∧ Rep c da G v d
  | _, _, .nil, _, _, h => by simp at h
  | _, _, .cons h r, 0, d, e => by
    obtain rfl := Option.some.inj e
    exact ⟨_, rfl, h⟩
  | _, _, .cons h r, i + 1, d, e => by
    obtain ⟨v, h1, h2⟩ := RepAll.get r (i := i) (d := d) (by simpa using e)
    exact ⟨v, by simpa using h1, h2⟩
theorem RepAll.append : ∀ {vs us : List V} {ds es : List D}, RepAll c da G vs ds → RepAll c da G us es → RepAll c da G (vs ++ us) (ds ++ es)
  | _, _, _, _, .nil, r => r
  | _, _, _, _, .cons h q, r => .cons h (RepAll.append q r)
theorem RepAll.snoc {vs : List V} {ds : List D} {v : V} {d : D} (r : RepAll c da G vs ds) (h : Rep c da G v d) : RepAll c da G (vs ++ [v]) (ds ++ [d]) := r.append (.cons h .nil)
theorem RepAll.take : ∀ {vs : List V} {ds : List D} (n : Nat), RepAll c da G vs ds → RepAll c da G (vs.take n) (ds.take n)
  | _, _, 0, _ => .nil
  | _, _, _ + 1, .nil => .nil
  | _, _, n + 1, .cons h r => .cons h (RepAll.take n r)
theorem RepAll.drop : ∀ {vs : List V} {ds : List D} (n : Nat), RepAll c da G vs ds → RepAll c da G (vs.drop n) (ds.drop n)
  | _, _, 0, r => r
  | _, _, _ + 1, .nil => .nil
  | _, _, n + 1, .cons _ r => RepAll.drop n r
theorem RepAll.reverse : ∀ {vs : List V} {ds : List D}, RepAll c da G vs ds → RepAll c da G vs.reverse ds.reverse
  | _, _, .nil => .nil
  | _, _, .cons h r => by
    rw [List.reverse_cons, List.reverse_cons]
    exact (RepAll.reverse r).append (.cons h .nil)
theorem RepAll.set : ∀ {vs : List V} {ds : List D} {v : V} {d : D} (i : Nat), RepAll c da G vs ds → Rep c da G v d → RepAll c da G (vs.set i v) (ds.set i d)
  | _, _, _, _, _, .nil, _ => .nil
  | _, _, _, _, 0, .cons _ r, h => .cons h r
  | _, _, _, _, i + 1, .cons q r, h => .cons q (RepAll.set i r h)
theorem RepAll.eraseIdx : ∀ {vs : List V} {ds : List D} (i : Nat), RepAll c da G vs ds → RepAll c da G (vs.eraseIdx i) (ds.eraseIdx i)
  | _, _, _, .nil => .nil
  | _, _, 0, .cons _ r => r
  | _, _, i + 1, .cons q r => .cons q (RepAll.eraseIdx i r)
theorem RepAll.ints : ∀ (ns : List Int), RepAll c da G (ns.map V.int) (ns.map D.int)
  | [] => .nil
  | n :: r => .cons (.int n) (RepAll.ints r)
theorem RepAll.ints_inv : ∀ {vs : List V} {ns : List Int}, RepAll c da G vs (ns.map D.int) → vs = ns.map V.int
  | _, [], h => by cases h; rfl
  | _, n :: r, h => by
    cases h with
    | cons a b =>
      cases a
      rw [RepAll.ints_inv b]
      rfl
theorem RepF.lookup : ∀ {fs : List (Str × V)} {gs : List (Str × D)}, RepF c da G fs gs → ∀ {f : Str} {d : D}, gs.lookup f = some d → ∃ v, fs.lookup f = some v ∧ Rep c da G v d
  | _, _, .nil, _, _, h => by cases h
  | _, _, .cons (k := k) h r, f, d, e => by
    rw [List.lookup_cons] at e
    rw [List.lookup_cons]
    cases q : f == k with
    | true =>
      rw [q] at e
      have e' := Option.some.inj e
      subst e'
      exact ⟨_, rfl, h⟩
    | false =>
      rw [q] at e
      exact RepF.lookup r e
theorem RepF.none : ∀ {fs : List (Str × V)} {gs : List (Str × D)}, RepF c da G fs gs → ∀ {f : Str}, gs.lookup f = none → fs.lookup f = none
  | _, _, .nil, _, h => rfl
  | _, _, .cons (k := k) h r, f, e => by
    rw [List.lookup_cons] at e
    rw [List.lookup_cons]
    cases q : f == k with
    | true =>
      rw [q] at e
      cases e
    | false =>
      rw [q] at e
      exact RepF.none r e
end

/-- the heap without what stands at O -/
def vis (O : List Addr) (H : Hp) : Hp := fun b => if b ∈ O then none else H b
theorem vis_in {O : List Addr} {H : Hp} {a : Addr} (h : a ∈ O) : vis O H a = none := if_pos h
theorem vis_out {O : List Addr} {H : Hp} {a : Addr} (h : a ∉ O) : vis O H a = H a := if_neg h
theorem vis_some {O : List Addr} {H : Hp} {a : Addr} {o : HO} (h : vis O H a = some o) : a ∉ O ∧ H a = some o := by
  by_cases q : a ∈ O
  · rw [vis_in q] at h
    cases h
  · rw [vis_out q] at h
    exact ⟨q, h⟩
theorem vis_ex {O : List Addr} {H : Hp} : Ex (vis O H) H := fun a o h => (vis_some h).2
theorem vis_mono {O : List Addr} {H H' : Hp} (e : Ex H H') : Ex (vis O H) (vis O H') := fun a o h => by
  obtain ⟨n, q⟩ := vis_some h
  rw [vis_out n]
  exact e a o q
theorem vis_cons {O : List Addr} {H : Hp} {a : Addr} : Ex (vis (a :: O) H) (vis O H) := fun b o h => by
  obtain ⟨n, q⟩ := vis_some h
  rw [vis_out fun z => n (List.mem_cons_of_mem _ z)]
  exact q
theorem vis_sub {O O' : List Addr} {H : Hp} (h : ∀ a ∈ O', a ∈ O) : Ex (vis O H) (vis O' H) := fun b o e => by
  obtain ⟨n, q⟩ := vis_some e
  rw [vis_out fun z => n (h b z)]
  exact q
/-- writing at a hidden place -/
theorem vis_upd {O : List Addr} {H : Hp} {a : Addr} {o : HO} (h : a ∈ O) : vis O (upd H a o) = vis O H := by
  funext b
  by_cases q : b ∈ O
  · rw [vis_in q, vis_in q]
  · rw [vis_out q, vis_out q, upd_ne fun z => q (by rw [z]; exact h)]

/-- a list or a dict, as it stands -/
def Obj (c : Ct) (da : Option Addr) (G : Hp) (o : HO) (d : D) : Prop :=
  (∃ xs ds, o = .lst xs ∧ d = .lst ds ∧ RepAll c da G xs ds) ∨ (∃ kvs ps, o = .dK kvs ∧ d = .dic ps ∧ RepKV c da G kvs ps) ∨ (∃ kvs ps, o = .dT kvs ∧ d = .dit ps ∧ RepKT c da G kvs ps) ∨ (∃ C dx fs cn gs, o = .ins C dx fs ∧ d = .ins cn gs ∧ c.mg cn = some (.ref C) ∧ RepF c da G fs gs)
theorem Obj.mono {c : Ct} {da : Option Addr} {G G' : Hp} {o : HO} {d : D} (e : Ex G G') (h : Obj c da G o d) : Obj c da G' o d := by
  rcases h with ⟨xs, ds, h1, h2, r⟩ | ⟨kvs, ps, h1, h2, r⟩ | ⟨kvs, ps, h1, h2, r⟩ | ⟨C, dx, fs, cn, gs, h1, h2, h3, r⟩
  · exact .inl ⟨xs, ds, h1, h2, r.mono e⟩
  · exact .inr (.inl ⟨kvs, ps, h1, h2, r.mono e⟩)
  · exact .inr (.inr (.inl ⟨kvs, ps, h1, h2, r.mono e⟩))
  · exact .inr (.inr (.inr ⟨C, dx, fs, cn, gs, h1, h2, h3, r.mono e⟩))
theorem Obj.rep {c : Ct} {da : Option Addr} {G : Hp} {a : Addr} {o : HO} {d : D} (h : Obj c da G o d) (e : G a = some o) : Rep c da G (.ref a) d := by
  rcases h with ⟨xs, ds, rfl, rfl, r⟩ | ⟨kvs, ps, rfl, rfl, r⟩ | ⟨kvs, ps, rfl, rfl, r⟩ | ⟨C, dx, fs, cn, gs, rfl, rfl, h3, r⟩
  · exact .lst e r
  · exact .dK e r
  · exact .dT e r
  · exact .ins e h3 r

/-- neither a tuple nor a thing of another kind -/
def tagOf : HO → Option (List V)
  | .tup xs => some xs
  | .ext _ => some []
  | _ => none
def NT (o : HO) : Prop := ∀ xs, tagOf o ≠ some xs
theorem Obj.nt {c : Ct} {da : Option Addr} {G : Hp} {o : HO} {d : D} (h : Obj c da G o d) : NT o := by
  rcases h with ⟨_, _, rfl, _⟩ | ⟨_, _, rfl, _⟩ | ⟨_, _, rfl, _⟩ | ⟨_, _, _, _, _, rfl, _⟩ <;> (intro xs z; cases z)
/-! ### the state -/
inductive Slot where
  | val (d : D) | own (d : D)
abbrev Env := List (Option Slot)
structure W where
  wide : List Int
  cells : List Int
  rest : Int
  turn : Int
inductive RV where
  | sh (d : D) | fr (d : D) | ow (i : Nat)
abbrev M (α : Type) := Env → W → Option (α × Env × W)
def pureM {α : Type} (a : α) : M α := fun ρ w => some (a, ρ, w)
def failM {α : Type} : M α := fun _ _ => none
def bindM {α β : Type} (f : M α) (k : α → M β) : M β := fun ρ w => match f ρ w with
  | none => none
  | some (a, ρ', w') => k a ρ' w'
theorem bindM_some {α β : Type} {f : M α} {k : α → M β} {ρ : Env} {w : W} {z : β × Env × W} (h : bindM f k ρ w = some z) : ∃ a ρ' w', f ρ w = some (a, ρ', w') ∧ k a ρ' w' = some z := by
  unfold bindM at h
  cases e : f ρ w with
  | none =>
    rw [e] at h
    cases h
  | some p =>
    obtain ⟨a, ρ', w'⟩ := p
    rw [e] at h
    exact ⟨a, ρ', w', rfl, h⟩

def DrawAt (dr : Dr) (w : W) (H : Hp) : Prop :=
  (∀ t, dr.at_ = some t → H t.1 = some (.dK [(.inr "wide", .ref t.2.1), (.inr "cells", .ref t.2.2), (.inr "rest", .int w.rest), (.inr "turn", .int w.turn)]) ∧
    H t.2.1 = some (.lst (w.wide.map V.int)) ∧ H t.2.2 = some (.lst (w.cells.map V.int)) ∧ t.2.1 ≠ t.2.2 ∧ w.cells = dr.cl) ∧ LamX.Tabs Tabl.T H

/-- a frame: the draws, what was hidden at the entry, the heap at the entry -/
structure Fm where
  dr : Dr
  O0 : List Addr
  H0 : Hp
structure SR (c : Ct) (F : Fm) (O : List Addr) (ρ : Env) (w : W) (σ : L2.St) (H : Hp) : Prop where
  len : ρ.length = σ.length
  base : ∀ a o, F.H0 a = some o → a ∉ F.dr.as → H a = some o
  new : ∀ a ∈ O, a ∉ F.O0 → F.H0 a = none
  sub : ∀ a ∈ F.O0, a ∈ O
  drs : ∀ a ∈ F.dr.as, a ∈ F.O0
  trk : ∀ a ∈ O, ∃ o, H a = some o ∧ NT o
  draw : DrawAt F.dr w H
  val : ∀ (i : Nat) d, ρ[i]? = some (some (Slot.val d)) → ∃ v, σ[i]? = some (some v) ∧ Rep c F.dr.da (vis O H) v d
  own : ∀ (i : Nat) d, ρ[i]? = some (some (Slot.own d)) → ∃ a o, σ[i]? = some (some (V.ref a)) ∧ a ∈ O ∧ a ∉ F.O0 ∧ H a = some o ∧ Obj c F.dr.da (vis O H) o d
  uni : ∀ (i j : Nat) d d' a, ρ[i]? = some (some (Slot.own d)) → ρ[j]? = some (some (Slot.own d')) → σ[i]? = some (some (V.ref a)) → σ[j]? = some (some (V.ref a)) → i = j

/-- a value that came out; G: what was to be seen at the start -/
def RepR (c : Ct) (F : Fm) (G : Hp) (O : List Addr) (ρ : Env) (w : W) (σ : L2.St) (H : Hp) : RV → V → Prop
  | .sh d, v => Rep c F.dr.da (vis O H) v d
  | .fr d, v => ∃ a o, v = .ref a ∧ a ∉ O ∧ SR c F (a :: O) ρ w σ H ∧ H a = some o ∧ Obj c F.dr.da (vis (a :: O) H) o d ∧ Ex G (vis (a :: O) H)
  | .ow i, v => σ[i]? = some (some v) ∧ ∃ d, ρ[i]? = some (some (.own d))
/-- a value that is held while others are reckoned -/
def Hold (c : Ct) (F : Fm) (O : List Addr) (σ : L2.St) (H : Hp) : RV → V → Prop
  | .sh d, v => Rep c F.dr.da (vis O H) v d
  | .fr d, v => Rep c F.dr.da (vis O H) v d
  | .ow i, v => σ[i]? = some (some v)
/-- a value that is looked at: its own object may be hidden -/
def RepP (c : Ct) (da : Option Addr) (O : List Addr) (H : Hp) (v : V) (d : D) : Prop :=
  Rep c da (vis O H) v d ∨ ∃ a o, v = .ref a ∧ H a = some o ∧ Obj c da (vis O H) o d
def slotD : Option (Option Slot) → Option D
  | some (some (.own d)) => some d
  | some (some (.val d)) => some d
  | _ => none
def peek (ρ : Env) : RV → Option D
  | .sh d => some d
  | .fr d => some d
  | .ow i => slotD ρ[i]?
/-- a new value of a plain operation: H' is H with more -/
def RepN (c : Ct) (da : Option Addr) (O : List Addr) (H H' : Hp) : RV → V → Prop
  | .sh d, v => Rep c da (vis O H') v d
  | .fr d, v => ∃ a o, v = .ref a ∧ H a = none ∧ H' a = some o ∧ Obj c da (vis (a :: O) H') o d
  | .ow _, _ => False

section
variable {c : Ct} {F : Fm} {G G' : Hp} {O O' : List Addr} {ρ : Env} {w : W} {σ : L2.St} {H H' : Hp} {r : RV} {v : V} {d : D}
theorem DrawAt.mono {dr : Dr} {w : W} (e : Ex H H') (h : DrawAt dr w H) : DrawAt dr w H' := ⟨fun t q => let ⟨a, b, c, d⟩ := h.1 t q; ⟨e _ _ a, e _ _ b, e _ _ c, d⟩, h.2.ext e⟩
/-- more objects -/
theorem SR.grow (S : SR c F O ρ w σ H) (e : Ex H H') : SR c F O ρ w σ H' where
  len := S.len
  base := fun a o h n => e _ _ (S.base a o h n)
  new := S.new
  sub := S.sub
  drs := S.drs
  trk := fun a h => let ⟨o, q, n⟩ := S.trk a h; ⟨o, e _ _ q, n⟩
  draw := S.draw.mono e
  val := fun i d h => let ⟨v, h1, h2⟩ := S.val i d h; ⟨v, h1, h2.mono (vis_mono e)⟩
  own := fun i d h => let ⟨a, o, h1, h2, h3, h4, h5⟩ := S.own i d h; ⟨a, o, h1, h2, h3, e _ _ h4, h5.mono (vis_mono e)⟩
  uni := S.uni
theorem Hold.mono (e : Ex (vis O H) (vis O' H')) (h : Hold c F O σ H r v) : Hold c F O' σ H' r v := by
  cases r with
  | sh d => exact Rep.mono e h
  | fr d => exact Rep.mono e h
  | ow i => exact h
theorem RepR.less (e : Ex G' G) (h : RepR c F G O ρ w σ H r v) : RepR c F G' O ρ w σ H r v := by
  cases r with
  | sh d => exact h
  | ow i => exact h
  | fr d =>
    obtain ⟨a, o, h1, h2, h3, h4, h5, h6⟩ := h
    exact ⟨a, o, h1, h2, h3, h4, h5, e.trans h6⟩
theorem RepR.hold (h : RepR c F G O ρ w σ H r v) : Hold c F O σ H r v := by
  cases r with
  | sh d => exact h
  | fr d =>
    obtain ⟨a, o, rfl, n, S, e, q, _⟩ := h
    exact (q.mono vis_cons).rep (by rw [vis_out n]; exact e)
  | ow i => exact h.1
theorem Hold.peek (S : SR c F O ρ w σ H) (h : Hold c F O σ H r v) (e : peek ρ r = some d) : RepP c F.dr.da O H v d := by
  cases r with
  | sh d' =>
    cases e
    exact .inl h
  | fr d' =>
    cases e
    exact .inl h
  | ow i =>
    have e : slotD ρ[i]? = some d := e
    have h' : σ[i]? = some (some v) := h
    cases q : ρ[i]? with
    | none =>
      rw [q] at e
      cases e
    | some s =>
      rw [q] at e
      cases s with
      | none => cases e
      | some s =>
        cases s with
        | val d' =>
          cases e
          obtain ⟨v', h1, h2⟩ := S.val i d q
          rw [h'] at h1
          cases h1
          exact .inl h2
        | own d' =>
          cases e
          obtain ⟨a, o, h1, h2, h3, h4, h5⟩ := S.own i d q
          rw [h'] at h1
          cases h1
          exact .inr ⟨a, o, rfl, h4, h5⟩
/-- one more hidden place -/
theorem SR.hide {a : Addr} {o : HO} (S : SR c F O ρ w σ H) (n : H a = none) (e : Ex H H') (q : H' a = some o) (nt : NT o := by intro _ z; cases z) : SR c F (a :: O) ρ w σ H' ∧ a ∉ O ∧ Ex (vis O H) (vis (a :: O) H') := by
  have S' := S.grow e
  have nO : a ∉ O := fun z => by
    obtain ⟨u, hu, _⟩ := S.trk a z
    rw [n] at hu
    cases hu
  have k : Ex (vis O H) (vis (a :: O) H') := fun b u hb => by
    obtain ⟨m, hb⟩ := vis_some hb
    rw [vis_out fun z => ?_]
    · exact e _ _ hb
    · rcases List.mem_cons.mp z with z | z
      · rw [z, n] at hb
        cases hb
      · exact m z
  refine ⟨⟨S.len, S'.base, fun b h m => ?_, fun b h => List.mem_cons_of_mem _ (S.sub b h), S.drs, fun b h => ?_, S'.draw, fun i d h => ?_, fun i d h => ?_, S'.uni⟩, nO, k⟩
  · rcases List.mem_cons.mp h with z | z
    · subst z
      cases z : F.H0 b with
      | none => rfl
      | some u =>
        have nd : b ∉ F.dr.as := fun y => m (S.drs b y)
        rw [S.base b u z nd] at n
        cases n
    · exact S.new b z m
  · rcases List.mem_cons.mp h with z | z
    · rw [z]
      exact ⟨o, q, nt⟩
    · exact S'.trk b z
  · obtain ⟨u, h1, h2⟩ := S.val i d h
    exact ⟨u, h1, h2.mono k⟩
  · obtain ⟨b, u, h1, h2, h3, h4, h5⟩ := S.own i d h
    exact ⟨b, u, h1, List.mem_cons_of_mem _ h2, h3, e _ _ h4, h5.mono k⟩
/-- a plain operation's value is a value that came out -/
theorem RepN.out (S : SR c F O ρ w σ H) (e : Ex H H') (h : RepN c F.dr.da O H H' r v) : RepR c F (vis O H) O ρ w σ H' r v := by
  cases r with
  | sh d => exact h
  | ow i => exact h.elim
  | fr d =>
    obtain ⟨a, o, rfl, n, q, ob⟩ := h
    obtain ⟨S1, n1, k1⟩ := S.hide n e q ob.nt
    exact ⟨a, o, rfl, n1, S1, q, ob, k1⟩
end

/-! ### the judgements -/
abbrev ct (X : Cx) : Ct := ⟨X.K, X.mg⟩
def tE (c : Ct) (F : Fm) (f : M RV) : TE := fun σ H Q => ∃ O ρ w r ρ' w', SR c F O ρ w σ H ∧ f ρ w = some (r, ρ', w') ∧
  ∀ v O' H', SR c F O' ρ' w' σ H' → Ex (vis O H) (vis O' H') → RepR c F (vis O H) O' ρ' w' σ H' r v → Q v H'
def tT (c : Ct) (F : Fm) (f : M Bool) : TT := fun σ H Q => ∃ O ρ w b ρ' w', SR c F O ρ w σ H ∧ f ρ w = some (b, ρ', w') ∧
  ∀ O' H', SR c F O' ρ' w' σ H' → Ex (vis O H) (vis O' H') → Q b H'
inductive HoldAll (c : Ct) (F : Fm) (O : List Addr) (σ : L2.St) (H : Hp) : List RV → List V → Prop
  | nil : HoldAll c F O σ H [] []
  | cons {r : RV} {v : V} {rs : List RV} {vs : List V} : Hold c F O σ H r v → HoldAll c F O σ H rs vs → HoldAll c F O σ H (r :: rs) (v :: vs)
theorem HoldAll.mono {c : Ct} {F : Fm} {O O' : List Addr} {σ : L2.St} {H H' : Hp} (e : Ex (vis O H) (vis O' H')) : ∀ {rs : List RV} {vs : List V}, HoldAll c F O σ H rs vs → HoldAll c F O' σ H' rs vs
  | _, _, .nil => .nil
  | _, _, .cons h r => .cons (h.mono e) (HoldAll.mono e r)
theorem HoldAll.length {c : Ct} {F : Fm} {O : List Addr} {σ : L2.St} {H : Hp} : ∀ {rs : List RV} {vs : List V}, HoldAll c F O σ H rs vs → rs.length = vs.length
  | _, _, .nil => rfl
  | _, _, .cons h r => by simp [HoldAll.length r]
def tA (c : Ct) (F : Fm) (f : M (List RV)) : TA := fun σ H Q => ∃ O ρ w rs ρ' w', SR c F O ρ w σ H ∧ f ρ w = some (rs, ρ', w') ∧
  ∀ vs O' H', SR c F O' ρ' w' σ H' → Ex (vis O H) (vis O' H') → HoldAll c F O' σ H' rs vs → Q vs H'
def FE (X : Cx) (e : Expr) (f : M RV) : Prop := ∀ F, PE X e (tE (ct X) F f)
def FT (X : Cx) (e : Expr) (f : M Bool) : Prop := ∀ F, PT X e (tT (ct X) F f)
def FW (X : Cx) (e : Expr) (f : M Bool) : Prop := ∀ F, PW X e (tT (ct X) F f)
structure FA (X : Cx) (es : List Expr) (f : M (List RV)) : Prop where
  run : ∀ F, PA X es (tA (ct X) F f)
  len : ∀ ρ w rs ρ' w', f ρ w = some (rs, ρ', w') → rs.length = es.length
/-- how a statement ends -/
inductive Fl where
  | nx | ret (r : RV) | bk | ct
def Done (c : Ct) (F : Fm) (G : Hp) (fl : Fl) (ρ : Env) (w : W) (E : Ends) : Prop := match fl with
  | .nx => ∀ σ O H, SR c F O ρ w σ H → Ex G (vis O H) → E.nx σ H
  | .bk => ∀ σ O H, SR c F O ρ w σ H → Ex G (vis O H) → E.bk σ H
  | .ct => ∀ σ O H, SR c F O ρ w σ H → Ex G (vis O H) → E.ct σ H
  | .ret r => ∀ v σ O H, SR c F O ρ w σ H → RepR c F G O ρ w σ H r v → E.rt v H
theorem Done.more {c : Ct} {F : Fm} {G G' : Hp} {fl : Fl} {ρ : Env} {w : W} {E : Ends} (e : Ex G G') (h : Done c F G fl ρ w E) : Done c F G' fl ρ w E := by
  cases fl with
  | nx => exact fun σ O H S x => h σ O H S (e.trans x)
  | bk => exact fun σ O H S x => h σ O H S (e.trans x)
  | ct => exact fun σ O H S x => h σ O H S (e.trans x)
  | ret r => exact fun v σ O H S x => h v σ O H S (x.less e)
def tS (c : Ct) (F : Fm) (f : M Fl) : TS := fun E σ H => ∃ O ρ w fl ρ' w', SR c F O ρ w σ H ∧ f ρ w = some (fl, ρ', w') ∧ Done c F (vis O H) fl ρ' w' E
def FS (X : Cx) (st : Stmt) (f : M Fl) : Prop := ∀ F, PS X st (tS (ct X) F f)
def FSs (X : Cx) (st : List Stmt) (f : M Fl) : Prop := ∀ F, PSs X st (tS (ct X) F f)
theorem PE.wk {X : Cx} {e : Expr} {t t' : TE} (h : PE X e t) (k : ∀ σ H Q, t' σ H Q → t σ H Q) : PE X e t' := ⟨fun pins s σ H Q I q => h.run pins s σ H Q I (k σ H Q q)⟩
theorem PT.wk {X : Cx} {e : Expr} {t t' : TT} (h : PT X e t) (k : ∀ σ H Q, t' σ H Q → t σ H Q) : PT X e t' := ⟨fun pins s σ H Q I q => h.run pins s σ H Q I (k σ H Q q)⟩
theorem PW.wk {X : Cx} {e : Expr} {t t' : TT} (h : PW X e t) (k : ∀ σ H Q, t' σ H Q → t σ H Q) : PW X e t' := ⟨fun wh pins s σ H Q I q => h.run wh pins s σ H Q I (k σ H Q q)⟩
theorem PA.wk {X : Cx} {e : List Expr} {t t' : TA} (h : PA X e t) (k : ∀ σ H Q, t' σ H Q → t σ H Q) : PA X e t' := ⟨fun p pins s σ H Q I q => h.run p pins s σ H Q I (k σ H Q q)⟩
theorem PS.wk {X : Cx} {e : Stmt} {t t' : TS} (h : PS X e t) (k : ∀ D σ H, t' D σ H → t D σ H) : PS X e t' := ⟨fun pins s σ H D I q => h.run pins s σ H D I (k D σ H q)⟩
theorem PSs.wk {X : Cx} {e : List Stmt} {t t' : TS} (h : PSs X e t) (k : ∀ D σ H, t' D σ H → t D σ H) : PSs X e t' := ⟨fun pins s σ H D I q => h.run pins s σ H D I (k D σ H q)⟩
end FD

end sec_FD1
section sec_FD2
set_option maxRecDepth 100000
set_option maxHeartbeats 5000000
/-! FD2: expressions. -/
namespace FD
open PySem L2
variable [Tabl]

section
variable {c : Ct} {da : Option Addr} {O : List Addr} {H : Hp} {v : V}
theorem Obj.noInt {G : Hp} {o : HO} {i : Int} (h : Obj c da G o (.int i)) : False := by
  rcases h with ⟨_, _, _, e, _⟩ | ⟨_, _, _, e, _⟩ | ⟨_, _, _, e, _⟩ | ⟨_, _, _, _, _, _, e, _⟩ <;> cases e
theorem RepP.int {i : Int} (h : RepP c da O H v (.int i)) : v = .int i := by
  rcases h with h | ⟨a, o, _, _, h⟩
  · cases h; rfl
  · exact h.noInt.elim
theorem RepP.str {i : Str} (h : RepP c da O H v (.str i)) : v = .str i := by
  rcases h with h | ⟨a, o, _, _, h⟩
  · cases h; rfl
  · rcases h with ⟨_, _, _, e, _⟩ | ⟨_, _, _, e, _⟩ | ⟨_, _, _, e, _⟩ | ⟨_, _, _, _, _, _, e, _⟩ <;> cases e
theorem RepP.bl {i : Bool} (h : RepP c da O H v (.bl i)) : v = .bl i := by
  rcases h with h | ⟨a, o, _, _, h⟩
  · cases h; rfl
  · rcases h with ⟨_, _, _, e, _⟩ | ⟨_, _, _, e, _⟩ | ⟨_, _, _, e, _⟩ | ⟨_, _, _, _, _, _, e, _⟩ <;> cases e
theorem RepP.non (h : RepP c da O H v .non) : v = .non := by
  rcases h with h | ⟨a, o, _, _, h⟩
  · cases h; rfl
  · rcases h with ⟨_, _, _, e, _⟩ | ⟨_, _, _, e, _⟩ | ⟨_, _, _, e, _⟩ | ⟨_, _, _, _, _, _, e, _⟩ <;> cases e
theorem RepP.ty {n : String} (h : RepP c da O H v (.ty n)) : v = .ty n := by
  rcases h with h | ⟨a, o, _, _, h⟩
  · cases h; rfl
  · rcases h with ⟨_, _, _, e, _⟩ | ⟨_, _, _, e, _⟩ | ⟨_, _, _, e, _⟩ | ⟨_, _, _, _, _, _, e, _⟩ <;> cases e
theorem RepP.tup {ds : List D} (h : RepP c da O H v (.tup ds)) : ∃ a xs, v = .ref a ∧ SqT c.K H a xs ∧ RepAll c da (vis O H) xs ds ∧ Rep c da (vis O H) v (.tup ds) := by
  rcases h with h | ⟨a, o, _, _, h⟩
  · cases id h with
    | tup s r => exact ⟨_, _, rfl, .inl (.inl (vis_ex _ _ s)), r, h⟩
  · rcases h with ⟨_, _, _, e, _⟩ | ⟨_, _, _, e, _⟩ | ⟨_, _, _, e, _⟩ | ⟨_, _, _, _, _, _, e, _⟩ <;> cases e
theorem RepP.tupH {ds : List D} (h : RepP c da O H v (.tup ds)) : ∃ a xs, v = .ref a ∧ vis O H a = some (.tup xs) ∧ RepAll c da (vis O H) xs ds := by
  rcases h with h | ⟨a, o, _, _, h⟩
  · cases h with
    | tup s r => exact ⟨_, _, rfl, s, r⟩
  · rcases h with ⟨_, _, _, e, _⟩ | ⟨_, _, _, e, _⟩ | ⟨_, _, _, e, _⟩ | ⟨_, _, _, _, _, _, e, _⟩ <;> cases e
theorem RepP.ktup {ds : List D} (h : RepP c da O H v (.ktup ds)) : ∃ a xs, v = .ref a ∧ SqT c.K H a xs ∧ RepAll c da (vis O H) xs ds ∧ Rep c da (vis O H) v (.ktup ds) := by
  rcases h with h | ⟨a, o, _, _, h⟩
  · cases id h with
    | ktup s r => exact ⟨_, _, rfl, vis_ex.st s, r, h⟩
  · rcases h with ⟨_, _, _, e, _⟩ | ⟨_, _, _, e, _⟩ | ⟨_, _, _, e, _⟩ | ⟨_, _, _, _, _, _, e, _⟩ <;> cases e
theorem RepP.lst {ds : List D} (h : RepP c da O H v (.lst ds)) : ∃ a xs, v = .ref a ∧ H a = some (.lst xs) ∧ RepAll c da (vis O H) xs ds := by
  rcases h with h | ⟨a, o, ev, e, h⟩
  · cases h with
    | lst s r => exact ⟨_, _, rfl, vis_ex _ _ s, r⟩
  · rcases h with ⟨xs, es, e1, e2, r⟩ | ⟨_, _, _, e, _⟩ | ⟨_, _, _, e, _⟩ | ⟨_, _, _, _, _, _, e, _⟩
    · cases e2
      subst e1
      exact ⟨a, xs, ev, e, r⟩
    · cases e
    · cases e
    · cases e
theorem RepP.scr {ns : List Int} (h : RepP c da O H v (.scr ns)) : ∃ a, v = .ref a ∧ SqL c.K H a (ns.map V.int) := by
  rcases h with h | ⟨a, o, _, _, h⟩
  · cases h with
    | scr s => exact ⟨_, rfl, vis_ex.sl s⟩
  · rcases h with ⟨_, _, _, e, _⟩ | ⟨_, _, _, e, _⟩ | ⟨_, _, _, e, _⟩ | ⟨_, _, _, _, _, _, e, _⟩ <;> cases e
theorem RepP.ins {cn : Str} {gs : List (Str × D)} (h : RepP c da O H v (.ins cn gs)) : ∃ a C dx fs, v = .ref a ∧ H a = some (.ins C dx fs) ∧ c.mg cn = some (.ref C) ∧ RepF c da (vis O H) fs gs := by
  rcases h with h | ⟨a, o, ev, ea, h⟩
  · cases id h with
    | ins e m r => exact ⟨_, _, _, _, rfl, vis_ex _ _ e, m, r⟩
  · rcases h with ⟨_, _, _, e, _⟩ | ⟨_, _, _, e, _⟩ | ⟨_, _, _, e, _⟩ | ⟨C, dx, fs, cn', gs', e1, e2, e3, r⟩
    · cases e
    · cases e
    · cases e
    · cases e2
      subst e1
      exact ⟨a, C, dx, fs, ev, ea, e3, r⟩
theorem RepP.dic {ps : List (D × D)} (h : RepP c da O H v (.dic ps)) : ∃ a kvs, v = .ref a ∧ H a = some (.dK kvs) ∧ RepKV c da (vis O H) kvs ps := by
  rcases h with h | ⟨a, o, ev, e, h⟩
  · cases h with
    | dK s r => exact ⟨_, _, rfl, vis_ex _ _ s, r⟩
  · rcases h with ⟨xs, es, e1, e2, r⟩ | ⟨kvs, qs, e1, e2, r⟩ | ⟨kvs, qs, e1, e2, r⟩ | ⟨_, _, _, _, _, _, e2, _⟩
    · cases e2
    · cases e2
      subst e1
      exact ⟨a, kvs, ev, e, r⟩
    · cases e2
    · cases e2
theorem RepP.dit {ps : List (D × D)} (h : RepP c da O H v (.dit ps)) : ∃ a kvs, v = .ref a ∧ H a = some (.dT kvs) ∧ RepKT c da (vis O H) kvs ps := by
  rcases h with h | ⟨a, o, ev, e, h⟩
  · cases h with
    | dT s r => exact ⟨_, _, rfl, vis_ex _ _ s, r⟩
  · rcases h with ⟨xs, es, e1, e2, r⟩ | ⟨kvs, qs, e1, e2, r⟩ | ⟨kvs, qs, e1, e2, r⟩ | ⟨_, _, _, _, _, _, e2, _⟩
    · cases e2
    · cases e2
    · cases e2
      subst e1
      exact ⟨a, kvs, ev, e, r⟩
    · cases e2
end

section
variable {c : Ct} {da : Option Addr} {O : List Addr} {H : Hp} {v : V}
theorem RepP.fdit {ps : List (D × D)} (h : RepP c da O H v (.fdit ps)) : ∃ a ob kvs, v = .ref a ∧ H a = some (.frz ob (.dT kvs)) ∧ RepKT c da (vis O H) kvs ps ∧ vis O H a = some (.frz ob (.dT kvs)) := by
  rcases h with h | ⟨a, o, ev, e, h⟩
  · cases h with
    | fdT s r => exact ⟨_, _, _, rfl, vis_ex _ _ s, r, s⟩
  · rcases h with ⟨_, _, _, e, _⟩ | ⟨_, _, _, e, _⟩ | ⟨_, _, _, e, _⟩ | ⟨_, _, _, _, _, _, e, _⟩ <;> cases e
end

/-! ### operations on what is looked at -/
inductive AllP (c : Ct) (da : Option Addr) (O : List Addr) (H : Hp) : List V → List D → Prop
  | nil : AllP c da O H [] []
  | cons {v : V} {d : D} {vs : List V} {ds : List D} : RepP c da O H v d → AllP c da O H vs ds → AllP c da O H (v :: vs) (d :: ds)
/-- a plain operation by values: its arguments are looked at, its value is new -/
def rPure (c : Ct) (g : List D → Option RV) : List V → Hp → VK → Prop := fun xs H Q => ∃ da O ds r, (∀ a ∈ O, ∃ o, H a = some o ∧ NT o) ∧ AllP c da O H xs ds ∧ g ds = some r ∧ ∀ v H', Ex H H' → RepN c da O H H' r v → Q v H'
def rP2 (c : Ct) (g : D → D → Option RV) : R2 := fun x y H Q => ∃ da O d1 d2 r, (∀ a ∈ O, ∃ o, H a = some o ∧ NT o) ∧ RepP c da O H x d1 ∧ RepP c da O H y d2 ∧ g d1 d2 = some r ∧ ∀ v H', Ex H H' → RepN c da O H H' r v → Q v H'
def rP1 (c : Ct) (g : D → Option RV) : V → Hp → VK → Prop := fun x H Q => ∃ da O d1 r, (∀ a ∈ O, ∃ o, H a = some o ∧ NT o) ∧ RepP c da O H x d1 ∧ g d1 = some r ∧ ∀ v H', Ex H H' → RepN c da O H H' r v → Q v H'
def lift1 (g : D → Option RV) (r1 : RV) : M RV := fun ρ w => match peek ρ r1 with
  | some d1 => (match g d1 with | some r => some (r, ρ, w) | none => none)
  | none => none
def lift2 (g : D → D → Option RV) (r1 r2 : RV) : M RV := fun ρ w => match peek ρ r1 with
  | some d1 => (match peek ρ r2 with
    | some d2 => (match g d1 d2 with | some r => some (r, ρ, w) | none => none)
    | none => none)
  | none => none
def peeks (ρ : Env) : List RV → Option (List D)
  | [] => some []
  | r :: rs => match peek ρ r with
    | some d => (match peeks ρ rs with | some ds => some (d :: ds) | none => none)
    | none => none
def liftN (g : List D → Option RV) (rs : List RV) : M RV := fun ρ w => match peeks ρ rs with
  | some ds => (match g ds with | some r => some (r, ρ, w) | none => none)
  | none => none
theorem lift1_some {g : D → Option RV} {r1 : RV} {ρ : Env} {w : W} {z : RV × Env × W} (h : lift1 g r1 ρ w = some z) : ∃ d1 r, peek ρ r1 = some d1 ∧ g d1 = some r ∧ z = (r, ρ, w) := by
  unfold lift1 at h
  split at h
  · rename_i d1 e1
    split at h
    · rename_i r e
      exact ⟨d1, r, e1, e, (Option.some.inj h).symm⟩
    · cases h
  · cases h
theorem lift2_some {g : D → D → Option RV} {r1 r2 : RV} {ρ : Env} {w : W} {z : RV × Env × W} (h : lift2 g r1 r2 ρ w = some z) : ∃ d1 d2 r, peek ρ r1 = some d1 ∧ peek ρ r2 = some d2 ∧ g d1 d2 = some r ∧ z = (r, ρ, w) := by
  unfold lift2 at h
  split at h
  · rename_i d1 e1
    split at h
    · rename_i d2 e2
      split at h
      · rename_i r e
        exact ⟨d1, d2, r, e1, e2, e, (Option.some.inj h).symm⟩
      · cases h
    · cases h
  · cases h
theorem liftN_some {g : List D → Option RV} {rs : List RV} {ρ : Env} {w : W} {z : RV × Env × W} (h : liftN g rs ρ w = some z) : ∃ ds r, peeks ρ rs = some ds ∧ g ds = some r ∧ z = (r, ρ, w) := by
  unfold liftN at h
  split at h
  · rename_i d1 e1
    split at h
    · rename_i r e
      exact ⟨d1, r, e1, e, (Option.some.inj h).symm⟩
    · cases h
  · cases h
theorem HoldAll.peeks {c : Ct} {F : Fm} {O : List Addr} {ρ : Env} {w : W} {σ : L2.St} {H : Hp} (S : SR c F O ρ w σ H) : ∀ {rs : List RV} {vs : List V} {ds : List D}, HoldAll c F O σ H rs vs → peeks ρ rs = some ds → AllP c F.dr.da O H vs ds
  | _, _, _, .nil, e => by
    cases e
    exact .nil
  | _, _, _, .cons h r, e => by
    unfold FD.peeks at e
    split at e
    · rename_i d e1
      split at e
      · rename_i ds e2
        cases e
        exact .cons (h.peek S e1) (HoldAll.peeks S r e2)
      · cases e
    · cases e

section
variable {X : Cx} {a b e : Expr} {pos : Pos} {fa fb fe : M RV}
theorem tE_then {c : Ct} {F : Fm} {O : List Addr} {ρ : Env} {w : W} {σ : L2.St} {H : Hp} {f : M RV} {β : Type} {k : RV → M β} {z : β × Env × W} (S : SR c F O ρ w σ H) (h : bindM f k ρ w = some z) {Q : VK}
    (q : ∀ v O1 ρ1 w1 H1 r, SR c F O1 ρ1 w1 σ H1 → Ex (vis O H) (vis O1 H1) → RepR c F (vis O H) O1 ρ1 w1 σ H1 r v → k r ρ1 w1 = some z → Q v H1) : tE c F f σ H Q := by
  obtain ⟨r, ρ1, w1, e1, e2⟩ := bindM_some h
  exact ⟨O, ρ, w, r, ρ1, w1, S, e1, fun v O1 H1 S1 x R => q v O1 ρ1 w1 H1 r S1 x R e2⟩
theorem tT_then {c : Ct} {F : Fm} {O : List Addr} {ρ : Env} {w : W} {σ : L2.St} {H : Hp} {f : M Bool} {β : Type} {k : Bool → M β} {z : β × Env × W} (S : SR c F O ρ w σ H) (h : bindM f k ρ w = some z) {Q : Bool → Hp → Prop}
    (q : ∀ b O1 ρ1 w1 H1, SR c F O1 ρ1 w1 σ H1 → Ex (vis O H) (vis O1 H1) → k b ρ1 w1 = some z → Q b H1) : tT c F f σ H Q := by
  obtain ⟨r, ρ1, w1, e1, e2⟩ := bindM_some h
  exact ⟨O, ρ, w, r, ρ1, w1, S, e1, fun O1 H1 S1 x => q r O1 ρ1 w1 H1 S1 x e2⟩
theorem tA_then {c : Ct} {F : Fm} {O : List Addr} {ρ : Env} {w : W} {σ : L2.St} {H : Hp} {f : M (List RV)} {β : Type} {k : List RV → M β} {z : β × Env × W} (S : SR c F O ρ w σ H) (h : bindM f k ρ w = some z) {Q : List V → Hp → Prop}
    (q : ∀ vs O1 ρ1 w1 H1 rs, SR c F O1 ρ1 w1 σ H1 → Ex (vis O H) (vis O1 H1) → HoldAll c F O1 σ H1 rs vs → f ρ w = some (rs, ρ1, w1) → k rs ρ1 w1 = some z → Q vs H1) : tA c F f σ H Q := by
  obtain ⟨r, ρ1, w1, e1, e2⟩ := bindM_some h
  exact ⟨O, ρ, w, r, ρ1, w1, S, e1, fun v O1 H1 S1 x R => q v O1 ρ1 w1 H1 r S1 x R e1 e2⟩

/-! ### names, constants -/
theorem fe_c {v : V} {d : D} (h : PE X e (tC v)) (r : ∀ c da G, Rep c da G v d) : FE X e (pureM (.sh d)) := fun F => PE.wk h fun σ H Q q => by
  obtain ⟨O, ρ, w, r', ρ', w', S, e, k⟩ := q
  cases e
  exact k v O H S (Ex.refl _) (r _ _ _)
theorem fe_int {i : Int} {j : Nat} : FE X (.Constant (.int i) j pos) (pureM (.sh (.int i))) := fe_c pe_int fun _ _ _ => .int i
theorem fe_bl {b : Bool} {j : Nat} : FE X (.Constant (.bool b) j pos) (pureM (.sh (.bl b))) := fe_c pe_bl fun _ _ _ => .bl b
theorem fe_non {j : Nat} : FE X (.Constant .none j pos) (pureM (.sh .non)) := fe_c pe_non fun _ _ _ => .non
theorem fe_str {x : Str} {j : Nat} : FE X (.Constant (.str x) j pos) (pureM (.sh (.str x))) := fe_c pe_str fun _ _ _ => .str x
def varM (i : Nat) : M RV := fun ρ w => match ρ[i]? with
  | some (some (.val d)) => some (.sh d, ρ, w)
  | some (some (.own _)) => some (.ow i, ρ, w)
  | _ => none
theorem fe_var {i : Nat} {x : Str} (hN : X.N[i]? = some x) (hv : Vis X.env.scope x) (hd : (x == ("__debug__" : Str)) = false := by decide) (hcd : (x == ("__classdict__" : Str)) = false := by decide) : FE X (.Name x pos) (varM i) := fun F => PE.wk (pe_var hN hv hd hcd) fun σ H Q q => by
  obtain ⟨O, ρ, w, r', ρ', w', S, e, k⟩ := q
  unfold varM at e
  split at e
  · rename_i d h
    cases e
    obtain ⟨v, h1, h2⟩ := S.val i d h
    exact ⟨v, h1, k v O H S (Ex.refl _) h2⟩
  · rename_i d h
    cases e
    obtain ⟨a, o, h1, h2⟩ := S.own i d h
    exact ⟨_, h1, k _ O H S (Ex.refl _) ⟨h1, d, h⟩⟩
  · cases e
/-! ### operators -/
def op2M (g : D → D → Option RV) (fa fb : M RV) : M RV := bindM fa fun r1 => bindM fb fun r2 => lift2 g r1 r2
theorem op2_read {c : Ct} {F : Fm} {g : D → D → Option RV} {σ : L2.St} {H : Hp} {Q : VK} (h : tE c F (op2M g fa fb) σ H Q) : tOp (rP2 c g) (tE c F fa) (tE c F fb) σ H Q := by
  obtain ⟨O, ρ, w, r, ρ', w', S, e, k⟩ := h
  refine tE_then S e fun x O1 ρ1 w1 H1 r1 S1 e1 R1 h1 => ?_
  refine tE_then S1 h1 fun y O2 ρ2 w2 H2 r2 S2 e2 R2 h2 => ?_
  obtain ⟨d1, d2, r', p1, p2, eg, ez⟩ := lift2_some h2
  cases ez
  exact ⟨F.dr.da, O2, d1, d2, r, S2.trk, (R1.hold.mono e2).peek S2 p1, R2.hold.peek S2 p2, eg, fun v H3 e3 n => k v O2 H3 (S2.grow e3) ((e1.trans e2).trans (vis_mono e3)) ((n.out S2 e3).less (e1.trans e2))⟩
theorem fe_op {op : Operator} {g : D → D → Option RV} (ho : OpR X (binaryOp op) (rP2 (ct X) g)) (ha : FE X a fa) (hb : FE X b fb) : FE X (.BinOp a op b pos) (op2M g fa fb) := fun F =>
  PE.wk (pe_op ho (ha F) (hb F)) fun σ H Q h => op2_read h
theorem fe_cmp {op : CmpOp} {g : D → D → Option RV} (ho : OpR X (compareOp op) (rP2 (ct X) g)) (ha : FE X a fa) (hb : FE X b fb) (hm : behindInMarks op b = false) : FE X (.Compare a [op] [b] pos) (op2M g fa fb) := fun F =>
  PE.wk (pe_cmpR ho (ha F) (hb F) hm) fun σ H Q h => op2_read h
def op1M (g : D → Option RV) (fa : M RV) : M RV := bindM fa fun r1 => lift1 g r1
theorem fe_un {op : UnaryOp} {g : D → Option RV} (ho : UnR X (unaryOp op) (rP1 (ct X) g)) (ha : FE X a fa) : FE X (.UnaryOp op a pos) (op1M g fa) := fun F =>
  PE.wk (pe_un ho (ha F)) fun σ H Q h => by
    obtain ⟨O, ρ, w, r, ρ', w', S, e, k⟩ := h
    refine tE_then S e fun x O1 ρ1 w1 H1 r1 S1 e1 R1 h1 => ?_
    obtain ⟨d1, r', p1, eg, ez⟩ := lift1_some h1
    cases ez
    exact ⟨F.dr.da, O1, d1, r, S1.trk, R1.hold.peek S1 p1, eg, fun v H3 e3 n => k v O1 H3 (S1.grow e3) (e1.trans (vis_mono e3)) ((n.out S1 e3).less e1)⟩

/-! ### tests -/
def asB : RV → Option Bool
  | .sh (.bl b) => some b
  | _ => none
def boolM (f : M RV) : M Bool := bindM f fun r => fun ρ w => match asB r with
  | some b => some (b, ρ, w)
  | none => none
theorem boolM_some {r : RV} {ρ : Env} {w : W} {z : Bool × Env × W} (h : (match asB r with | some b => some (b, ρ, w) | none => none) = some z) : ∃ b, r = .sh (.bl b) ∧ z = (b, ρ, w) := by
  split at h
  · rename_i b e
    unfold asB at e
    split at e
    · cases e
      exact ⟨b, rfl, (Option.some.inj h).symm⟩
    · cases e
  · cases h
theorem bool_read {c : Ct} {F : Fm} {f : M RV} {σ : L2.St} {H : Hp} {Q : Bool → Hp → Prop} (h : tT c F (boolM f) σ H Q) : tB (tE c F f) σ H Q := by
  obtain ⟨O, ρ, w, b, ρ', w', S, e, k⟩ := h
  refine tE_then S e fun x O1 ρ1 w1 H1 r1 S1 e1 R1 h1 => ?_
  obtain ⟨b', er, ez⟩ := boolM_some h1
  subst er
  cases ez
  cases R1
  exact ⟨_, rfl, k O1 H1 S1 e1⟩
theorem ft_val (h : FE X e fe) (he : ∀ whole, isTrue e X.env whole = (do let v ← whole; standAt e.pos; holding [v] (truthy v)) := by intro _; rfl) : FT X e (boolM fe) := fun F =>
  PT.wk (pt_val (h F) he) fun σ H Q q => bool_read q
theorem ft_cmp {op : CmpOp} {g : D → D → Option RV} (ho : OpR X (compareOp op) (rP2 (ct X) g)) (ha : FE X a fa) (hb : FE X b fb) (hm : behindInMarks op b = false) : FT X (.Compare a [op] [b] pos) (boolM (op2M g fa fb)) := fun F =>
  PT.wk (pt_cmpR ho (ha F) (hb F) hm) fun σ H Q q => by
    have q' := bool_read q
    exact op2_read q'
variable {ta tb : M Bool} {rest : List Expr}
def andT (ta tb : M Bool) : M Bool := bindM ta fun b => if b then tb else pureM false
def orT (ta tb : M Bool) : M Bool := bindM ta fun b => if b then pureM true else tb
def notT (ta : M Bool) : M Bool := bindM ta fun b => pureM (!b)
theorem fw_and1 (ha : FT X a ta) : FW X (.BoolOp .And [a] pos) ta := fun F => pw_and1 (ha F)
theorem fw_or1 (ha : FT X a ta) : FW X (.BoolOp .Or [a] pos) ta := fun F => pw_or1 (ha F)
theorem fw_and (ha : FT X a ta) (hb : FW X (.BoolOp .And (b :: rest) pos) tb) : FW X (.BoolOp .And (a :: b :: rest) pos) (andT ta tb) := fun F => PW.wk (pw_and (ha F) (hb F)) fun σ H Q q => by
  obtain ⟨O, ρ, w, r, ρ', w', S, e, k⟩ := q
  refine tT_then S e fun b O1 ρ1 w1 H1 S1 e1 h1 => ?_
  cases b with
  | true => exact ⟨O1, ρ1, w1, r, ρ', w', S1, h1, fun O2 H2 S2 e2 => k O2 H2 S2 (e1.trans e2)⟩
  | false =>
    cases h1
    exact k O1 H1 S1 e1
theorem fw_or (ha : FT X a ta) (hb : FW X (.BoolOp .Or (b :: rest) pos) tb) : FW X (.BoolOp .Or (a :: b :: rest) pos) (orT ta tb) := fun F => PW.wk (pw_or (ha F) (hb F)) fun σ H Q q => by
  obtain ⟨O, ρ, w, r, ρ', w', S, e, k⟩ := q
  refine tT_then S e fun b O1 ρ1 w1 H1 S1 e1 h1 => ?_
  cases b with
  | false => exact ⟨O1, ρ1, w1, r, ρ', w', S1, h1, fun O2 H2 S2 e2 => k O2 H2 S2 (e1.trans e2)⟩
  | true =>
    cases h1
    exact k O1 H1 S1 e1
theorem ft_w {t : M Bool} (h : FW X e t) : FT X e t := fun F => (h F).pt
theorem ft_not (ha : FT X a ta) : FT X (.UnaryOp .Not a pos) (notT ta) := fun F => PT.wk (pt_not (ha F)) fun σ H Q q => by
  obtain ⟨O, ρ, w, r, ρ', w', S, e, k⟩ := q
  refine tT_then S e fun b O1 ρ1 w1 H1 S1 e1 h1 => ?_
  cases h1
  exact k O1 H1 S1 e1
/-- as values: truth values but for the last -/
def andM (fa fb : M RV) : M RV := bindM (boolM fa) fun b => if b then fb else pureM (.sh (.bl false))
def orM (fa fb : M RV) : M RV := bindM (boolM fa) fun b => if b then pureM (.sh (.bl true)) else fb
def notM (fa : M RV) : M RV := bindM (boolM fa) fun b => pureM (.sh (.bl (!b)))
theorem boolM_then {c : Ct} {F : Fm} {O : List Addr} {ρ : Env} {w : W} {σ : L2.St} {H : Hp} {f : M RV} {β : Type} {k : Bool → M β} {z : β × Env × W} (S : SR c F O ρ w σ H) (h : bindM (boolM f) k ρ w = some z) {Q : VK}
    (q : ∀ b O1 ρ1 w1 H1, SR c F O1 ρ1 w1 σ H1 → Ex (vis O H) (vis O1 H1) → k b ρ1 w1 = some z → Q (.bl b) H1) : tE c F f σ H Q := by
  obtain ⟨b, ρ1, w1, e1, e2⟩ := bindM_some h
  refine tE_then S e1 fun x O1 ρ1' w1' H1 r1 S1 x1 R1 h1 => ?_
  obtain ⟨b', er, ez⟩ := boolM_some h1
  subst er
  cases ez
  cases R1
  exact q _ O1 _ _ H1 S1 x1 e2
theorem fe_one {op : BoolOp} (h : FE X a fa) : FE X (.BoolOp op [a] pos) fa := fun F => pe_one (h F)
theorem fe_and (ha : FE X a fa) (hb : FE X (.BoolOp .And (b :: rest) pos) fb) : FE X (.BoolOp .And (a :: b :: rest) pos) (andM fa fb) := fun F => PE.wk (pe_and (ha F) (hb F)) fun σ H Q q => by
  obtain ⟨O, ρ, w, r, ρ', w', S, e, k⟩ := q
  refine boolM_then S e fun b O1 ρ1 w1 H1 S1 e1 h1 => ⟨b, rfl, ?_⟩
  cases b with
  | true => exact ⟨O1, ρ1, w1, r, ρ', w', S1, h1, fun v O2 H2 S2 e2 R => k v O2 H2 S2 (e1.trans e2) (R.less e1)⟩
  | false =>
    cases h1
    exact k _ O1 H1 S1 e1 (Rep.bl false)
theorem fe_not (ha : FE X a fa) : FE X (.UnaryOp .Not a pos) (notM fa) := fun F => PE.wk (pe_not (ha F)) fun σ H Q q => by
  obtain ⟨O, ρ, w, r, ρ', w', S, e, k⟩ := q
  refine boolM_then S e fun b O1 ρ1 w1 H1 S1 e1 h1 => ⟨b, rfl, ?_⟩
  cases h1
  exact k _ O1 H1 S1 e1 (Rep.bl _)
def ifM {α : Type} (t : M Bool) (f g : M α) : M α := bindM t fun b => if b then f else g
theorem fe_ifExp {t : Expr} (ht : FT X t ta) (ha : FE X a fa) (hb : FE X b fb) : FE X (.IfExp t a b pos) (ifM ta fa fb) := fun F => PE.wk (pe_ifExp (ht F) (ha F) (hb F)) fun σ H Q q => by
  obtain ⟨O, ρ, w, r, ρ', w', S, e, k⟩ := q
  refine tT_then S e fun b O1 ρ1 w1 H1 S1 e1 h1 => ?_
  cases b with
  | false => exact ⟨O1, ρ1, w1, r, ρ', w', S1, h1, fun v O2 H2 S2 e2 R => k v O2 H2 S2 (e1.trans e2) (R.less e1)⟩
  | true => exact ⟨O1, ρ1, w1, r, ρ', w', S1, h1, fun v O2 H2 S2 e2 R => k v O2 H2 S2 (e1.trans e2) (R.less e1)⟩

/-! ### argument lists -/
def consA (f : M RV) (g : M (List RV)) : M (List RV) := bindM f fun r => bindM g fun rs => pureM (r :: rs)
theorem fa_nil : FA X [] (pureM []) := ⟨fun F => PA.wk pa_nil fun σ H Q q => by
  obtain ⟨O, ρ, w, r, ρ', w', S, e, k⟩ := q
  cases e
  exact k [] O H S (Ex.refl _) .nil, fun ρ w rs ρ' w' h => by cases h; rfl⟩
theorem fa_cons {es : List Expr} {g : M (List RV)} (ha : FE X e fe) (hr : FA X es g) (hs : starEach (e :: es) X.env = (false, eval e X.env) :: starEach es X.env := by rfl) : FA X (e :: es) (consA fe g) := ⟨fun F => PA.wk (pa_cons (ha F) (hr.run F) hs) fun σ H Q q => by
  obtain ⟨O, ρ, w, r, ρ', w', S, e, k⟩ := q
  refine tE_then S e fun x O1 ρ1 w1 H1 r1 S1 e1 R1 h1 => ?_
  refine tA_then S1 h1 fun vs O2 ρ2 w2 H2 rs S2 e2 R2 _ h2 => ?_
  cases h2
  exact k (x :: vs) O2 H2 S2 (e1.trans e2) (.cons (R1.hold.mono e2) R2), fun ρ w rs ρ' w' h => by
    obtain ⟨r, ρ1, w1, _, h1⟩ := bindM_some h
    obtain ⟨rs', ρ2, w2, h2, h3⟩ := bindM_some h1
    cases h3
    simp [hr.len _ _ _ _ _ h2]⟩

/-! ### what escapes -/
def escR : RV → M D
  | .sh d => pureM d
  | .fr d => pureM d
  | .ow i => fun ρ w => match ρ[i]? with
    | some (some (.own d)) => some (d, ρ.set i (some (.val d)), w)
    | some (some (.val d)) => some (d, ρ, w)
    | _ => none
def escAll : List RV → M (List D)
  | [] => pureM []
  | r :: rs => bindM (escR r) fun d => bindM (escAll rs) fun ds => pureM (d :: ds)
end

section
variable {c : Ct} {F : Fm} {O : List Addr} {ρ : Env} {w : W} {σ : L2.St} {H : Hp}
theorem getElem?_set_some {α : Type} {l : List α} {i j : Nat} {x y : α} (h : (l.set i x)[j]? = some y) : (i = j ∧ x = y) ∨ (i ≠ j ∧ l[j]? = some y) := by
  by_cases e : i = j
  · subst e
    by_cases hl : i < l.length
    · rw [List.getElem?_set_self hl] at h
      exact .inl ⟨rfl, Option.some.inj h⟩
    · rw [List.getElem?_eq_none (by simpa using hl)] at h
      cases h
  · rw [List.getElem?_set_ne e] at h
    exact .inr ⟨e, h⟩
/-- an owned thing is given away: from now on it is only looked at -/
theorem SR.freezeE {i : Nat} {d : D} (S : SR c F O ρ w σ H) (h : ρ[i]? = some (some (Slot.own d))) :
    ∃ a O', σ[i]? = some (some (V.ref a)) ∧ SR c F O' (ρ.set i (some (.val d))) w σ H ∧ Ex (vis O H) (vis O' H) ∧ Rep c F.dr.da (vis O' H) (.ref a) d ∧ a ∉ O' ∧ a ∈ O ∧ a ∉ F.O0 ∧ ∃ o, H a = some o ∧ Obj c F.dr.da (vis O H) o d := by
  obtain ⟨a, o, h1, h2, h3, h4, h5⟩ := S.own i d h
  have sub : ∀ b, b ∈ O.filter (fun b => decide (b ≠ a)) ↔ b ∈ O ∧ b ≠ a := fun b => by simp [List.mem_filter]
  have k : Ex (vis O H) (vis (O.filter (fun b => decide (b ≠ a))) H) := vis_sub fun b hb => ((sub b).mp hb).1
  have na : a ∉ O.filter (fun b => decide (b ≠ a)) := fun z => ((sub a).mp z).2 rfl
  have rp : Rep c F.dr.da (vis (O.filter (fun b => decide (b ≠ a))) H) (.ref a) d := (h5.mono k).rep (by rw [vis_out na]; exact h4)
  refine ⟨a, _, h1, ⟨by rw [List.length_set]; exact S.len, S.base, fun b hb => S.new b ((sub b).mp hb).1, fun b hb => (sub b).mpr ⟨S.sub b hb, fun z => h3 (z ▸ hb)⟩, S.drs, fun b hb => S.trk b ((sub b).mp hb).1, S.draw, fun j e q => ?_, fun j e q => ?_, fun j j' e e' b q q' => ?_⟩, k, rp, na, h2, h3, o, h4, h5⟩
  · rcases getElem?_set_some q with ⟨rfl, z⟩ | ⟨_, q⟩
    · cases z
      exact ⟨_, h1, rp⟩
    · obtain ⟨v, q1, q2⟩ := S.val j e q
      exact ⟨v, q1, q2.mono k⟩
  · rcases getElem?_set_some q with ⟨rfl, z⟩ | ⟨ne, q⟩
    · cases z
    · obtain ⟨b, u, q1, q2, q3, q4, q5⟩ := S.own j e q
      refine ⟨b, u, q1, (sub b).mpr ⟨q2, fun z => ?_⟩, q3, q4, q5.mono k⟩
      rw [z] at q1
      exact ne (S.uni i j d e a h q h1 q1)
  · rcases getElem?_set_some q with ⟨rfl, z⟩ | ⟨ne, q⟩
    · cases z
    · rcases getElem?_set_some q' with ⟨rfl, z⟩ | ⟨ne', q'⟩
      · cases z
      · exact S.uni j j' e e' b q q'
theorem SR.freeze {i : Nat} {d : D} (S : SR c F O ρ w σ H) (h : ρ[i]? = some (some (Slot.own d))) :
    ∃ a O', σ[i]? = some (some (V.ref a)) ∧ SR c F O' (ρ.set i (some (.val d))) w σ H ∧ Ex (vis O H) (vis O' H) ∧ Rep c F.dr.da (vis O' H) (.ref a) d := by
  obtain ⟨a, O', h1, h2, h3, h4, _⟩ := S.freezeE h
  exact ⟨a, O', h1, h2, h3, h4⟩
theorem escR_ok {r : RV} {v : V} {d : D} {ρ' : Env} {w' : W} (S : SR c F O ρ w σ H) (h : Hold c F O σ H r v) (e : escR r ρ w = some (d, ρ', w')) :
    w' = w ∧ ∃ O', SR c F O' ρ' w σ H ∧ Ex (vis O H) (vis O' H) ∧ Rep c F.dr.da (vis O' H) v d := by
  cases r with
  | sh d' =>
    cases e
    exact ⟨rfl, O, S, Ex.refl _, h⟩
  | fr d' =>
    cases e
    exact ⟨rfl, O, S, Ex.refl _, h⟩
  | ow i =>
    have h' : σ[i]? = some (some v) := h
    simp only [escR] at e
    split at e
    · rename_i d' q
      cases e
      obtain ⟨a, O', h1, S', k, r⟩ := S.freeze q
      rw [h'] at h1
      cases h1
      exact ⟨rfl, O', S', k, r⟩
    · rename_i d' q
      cases e
      obtain ⟨u, h1, h2⟩ := S.val i _ q
      rw [h'] at h1
      cases h1
      exact ⟨rfl, O, S, Ex.refl _, h2⟩
    · cases e
theorem escAll_ok : ∀ {rs : List RV} {vs : List V} {ds : List D} {ρ : Env} {ρ' : Env} {w' : W} {O : List Addr}, SR c F O ρ w σ H → HoldAll c F O σ H rs vs → escAll rs ρ w = some (ds, ρ', w') →
    w' = w ∧ ∃ O', SR c F O' ρ' w σ H ∧ Ex (vis O H) (vis O' H) ∧ RepAll c F.dr.da (vis O' H) vs ds
  | _, _, _, _, _, _, O, S, .nil, e => by
    cases e
    exact ⟨rfl, O, S, Ex.refl _, .nil⟩
  | _, _, _, _, _, _, O, S, .cons h hr, e => by
    obtain ⟨d, ρ1, w1, e1, e2⟩ := bindM_some e
    obtain ⟨ds, ρ2, w2, e3, e4⟩ := bindM_some e2
    obtain ⟨ew, O1, S1, k1, r1⟩ := escR_ok S h e1
    rw [ew] at e3
    obtain ⟨ew2, O2, S2, k2, r2⟩ := escAll_ok S1 (hr.mono k1) e3
    cases e4
    exact ⟨ew2, O2, S2, k1.trans k2, .cons (r1.mono k2) r2⟩
end
section
variable {X : Cx} {es : List Expr} {pos : Pos} {fa : M (List RV)}
def tupM (fa : M (List RV)) : M RV := bindM fa fun rs => bindM (escAll rs) fun ds => pureM (.sh (.tup ds))
def lstM (fa : M (List RV)) : M RV := bindM fa fun rs => bindM (escAll rs) fun ds => pureM (.fr (.lst ds))
theorem small_fits {n : Nat} (h : n ≤ 1000000) : n ≤ sizeLine := Nat.le_trans h (by decide)
theorem fe_tup {x1 : Nat} (h : FA X es fa) (hl : es.length ≤ 1000000 := by decide) : FE X (.Tuple es x1 pos) (tupM fa) := fun F => PE.wk (pe_tup (h.run F)) fun σ H Q q => by
  obtain ⟨O, ρ, w, r, ρ', w', S, e, k⟩ := q
  refine tA_then S e fun vs O1 ρ1 w1 H1 rs S1 e1 R1 f1 h1 => ?_
  obtain ⟨ds, ρ2, w2, h2, h3⟩ := bindM_some h1
  obtain ⟨rfl, O2, S2, k2, r2⟩ := escAll_ok S1 R1 h2
  cases h3
  have hv : vs.length ≤ 1000000 := by rw [← R1.length, h.len _ _ _ _ _ f1]; exact hl
  refine ⟨small_fits hv, fun p np => ?_⟩
  have x2 : Ex H1 (upd H1 p (.tup vs)) := Ex.new np
  have nO : p ∉ O2 := fun z => by
    obtain ⟨o, q, _⟩ := S2.trk p z
    rw [np] at q
    cases q
  refine k _ O2 _ (S2.grow x2) ((e1.trans k2).trans (vis_mono x2)) (.tup ?_ (r2.mono (vis_mono x2)))
  rw [vis_out nO]
  exact upd_same
theorem fe_lst (h : FA X es fa) (hl : es.length ≤ 1000000 := by decide) : FE X (.List es pos) (lstM fa) := fun F => PE.wk (pe_lst (h.run F)) fun σ H Q q => by
  obtain ⟨O, ρ, w, r, ρ', w', S, e, k⟩ := q
  refine tA_then S e fun vs O1 ρ1 w1 H1 rs S1 e1 R1 f1 h1 => ?_
  obtain ⟨ds, ρ2, w2, h2, h3⟩ := bindM_some h1
  obtain ⟨rfl, O2, S2, k2, r2⟩ := escAll_ok S1 R1 h2
  cases h3
  have hv : vs.length ≤ 1000000 := by rw [← R1.length, h.len _ _ _ _ _ f1]; exact hl
  refine ⟨small_fits hv, fun p np => ?_⟩
  have x2 : Ex H1 (upd H1 p (.lst vs)) := Ex.new np
  obtain ⟨S3, n3, k3⟩ := S2.hide np x2 upd_same
  exact k _ O2 _ (S2.grow x2) ((e1.trans k2).trans (vis_mono x2)) ⟨p, _, rfl, n3, S3, upd_same, .inl ⟨vs, ds, rfl, rfl, r2.mono k3⟩, (e1.trans k2).trans k3⟩
end
end FD

end sec_FD2
section sec_FD3
set_option maxRecDepth 100000
set_option maxHeartbeats 5000000
/-! FD3: calls, objects, statements, loops. -/
namespace FD
open PySem L2
variable [Tabl]

/-- all but the draws is kept -/
def Kp (dr : Dr) (H H' : Hp) : Prop := ∀ a o, H a = some o → a ∉ dr.as → H' a = some o
/-- a def's promise in plain data -/
def spD (c : Ct) (n : Nat) (den : List D → W → Option (RV × W)) : Sp := fun vs H Q _ => ∃ dr O0 w ds r w', (∀ a ∈ dr.as, a ∈ O0) ∧ (∀ a ∈ O0, ∃ o, H a = some o ∧ NT o) ∧ DrawAt dr w H ∧ RepAll c dr.da (vis O0 H) vs ds ∧ ds.length = n ∧ den ds w = some (r, w') ∧
  ∀ v H', Kp dr H H' → DrawAt dr w' H' → RepN c dr.da O0 H H' r v → Q v H'

section
variable {c : Ct} {F : Fm} {O : List Addr} {ρ : Env} {w w' : W} {σ : L2.St} {H H' : Hp} {r : RV} {v : V}
theorem DrawAt.mem {dr : Dr} {a : Addr} (h : DrawAt dr w H) (m : a ∈ dr.as) : ∃ o, H a = some o ∧ NT o := by
  rcases List.mem_append.mp m with m | m
  · unfold Dr.ds at m
    split at m
    · rename_i t e
      obtain ⟨q1, q2, q3, _⟩ := h.1 t e
      simp only [List.mem_cons, List.not_mem_nil, or_false] at m
      rcases m with rfl | rfl | rfl
      · exact ⟨_, q1, fun _ z => nomatch z⟩
      · exact ⟨_, q2, fun _ z => nomatch z⟩
      · exact ⟨_, q3, fun _ z => nomatch z⟩
    · cases m
  · obtain ⟨p, hp, rfl⟩ := List.mem_map.mp m
    obtain ⟨ps, e, _⟩ := h.2 p hp
    exact ⟨_, e, fun _ z => nomatch z⟩
theorem vis_kp {dr : Dr} (hd : ∀ a ∈ dr.as, a ∈ O) (k : Kp dr H H') : Ex (vis O H) (vis O H') := fun b o h => by
  obtain ⟨n, q⟩ := vis_some h
  rw [vis_out n]
  exact k b o q fun z => n (hd b z)
theorem SR.drO (S : SR c F O ρ w σ H) : ∀ a ∈ F.dr.as, a ∈ O := fun a h => S.sub a (S.drs a h)
theorem SR.kept (S : SR c F O ρ w σ H) (k : Kp F.dr H H') (hw : DrawAt F.dr w' H') : SR c F O ρ w' σ H' where
  len := S.len
  base := fun a o h n => k _ _ (S.base a o h n) n
  new := S.new
  sub := S.sub
  drs := S.drs
  trk := fun a h => by
    by_cases q : a ∈ F.dr.as
    · exact hw.mem q
    · obtain ⟨o, e, nt⟩ := S.trk a h
      exact ⟨o, k _ _ e q, nt⟩
  draw := hw
  val := fun i d h => let ⟨v, h1, h2⟩ := S.val i d h; ⟨v, h1, h2.mono (vis_kp S.drO k)⟩
  own := fun i d h => let ⟨a, o, h1, h2, h3, h4, h5⟩ := S.own i d h; ⟨a, o, h1, h2, h3, k _ _ h4 fun z => h3 (S.drs a z), h5.mono (vis_kp S.drO k)⟩
  uni := S.uni
theorem SR.hideK {a : Addr} {o : HO} (S : SR c F O ρ w σ H) (n : H a = none) (k : Kp F.dr H H') (hw : DrawAt F.dr w' H') (q : H' a = some o) (nt : NT o) : SR c F (a :: O) ρ w' σ H' ∧ a ∉ O ∧ Ex (vis O H) (vis (a :: O) H') := by
  have S' := S.kept k hw
  have nO : a ∉ O := fun z => by
    obtain ⟨u, hu, _⟩ := S.trk a z
    rw [n] at hu
    cases hu
  have k : Ex (vis O H) (vis (a :: O) H') := fun b u hb => by
    obtain ⟨m, hb⟩ := vis_some hb
    rw [vis_out fun z => ?_]
    · exact k _ _ hb fun z => m (S.drO b z)
    · rcases List.mem_cons.mp z with z | z
      · rw [z, n] at hb
        cases hb
      · exact m z
  refine ⟨⟨S.len, S'.base, fun b h m => ?_, fun b h => List.mem_cons_of_mem _ (S.sub b h), S.drs, fun b h => ?_, S'.draw, fun i d h => ?_, fun i d h => ?_, S'.uni⟩, nO, k⟩
  · rcases List.mem_cons.mp h with z | z
    · subst z
      cases z : F.H0 b with
      | none => rfl
      | some u =>
        have nd : b ∉ F.dr.as := fun y => m (S.drs b y)
        rw [S.base b u z nd] at n
        cases n
    · exact S.new b z m
  · rcases List.mem_cons.mp h with z | z
    · rw [z]
      exact ⟨o, q, nt⟩
    · exact S'.trk b z
  · obtain ⟨u, h1, h2⟩ := S.val i d h
    exact ⟨u, h1, h2.mono k⟩
  · obtain ⟨b, u, h1, h2, h3, h4, h5⟩ := S.own i d h
    obtain ⟨b', u', h1', _, _, h4', _⟩ := S'.own i d h
    rw [h1] at h1'
    cases h1'
    refine ⟨b, u', h1, List.mem_cons_of_mem _ h2, h3, h4', ?_⟩
    have e : u' = u := by
      have nb : b ∉ F.dr.as := fun z => h3 (S.drs b z)
      have z := ‹Kp F.dr H H'› _ _ h4 nb
      rw [z] at h4'
      exact (Option.some.inj h4').symm
    rw [e]
    exact h5.mono k
theorem RepN.outK (S : SR c F O ρ w σ H) (k : Kp F.dr H H') (hw : DrawAt F.dr w' H') (h : RepN c F.dr.da O H H' r v) : RepR c F (vis O H) O ρ w' σ H' r v := by
  cases r with
  | sh d => exact h
  | ow i => exact h.elim
  | fr d =>
    obtain ⟨a, o, rfl, n, q, ob⟩ := h
    obtain ⟨S1, n1, k1⟩ := S.hideK n k hw q ob.nt
    exact ⟨a, o, rfl, n1, S1, q, ob, k1⟩
end

/-! ### forms of calls -/
/-- no argument is starred -/
abbrev Plain1 (X : Cx) (e : Expr) (es : List Expr) : Prop := starEach (e :: es) X.env = (false, eval e X.env) :: starEach es X.env
abbrev PlainR (X : Cx) (es : List Expr) (pos : Pos) : Prop := (backTo pos (starEach es X.env)).any (·.1) = false
abbrev NotDebug (x : Str) : Prop := (x == ("__debug__" : Str)) = false
/-! ### calls -/
structure CalD (P : Program) (w : World) (K : PySem.W.Frag) (mg : Str → Option Value) (base : Heap) (k : Nat) (x : Str) (n : Nat) (dd : List D) (den : List D → W → Option (RV × W)) : Prop where
  ex : ∃ (f : Addr) (fd : FuncData) (ps : List Str) (ds : List Value) (dvs : List V), FnOk P w K mg base CX0 k f fd ps (spD ⟨K, mg⟩ n den) ∧ mg x = some (.ref f) ∧ PySem.W.keepIn K (.ref f) = true ∧ Binds K fd ps ds ∧ Vals dvs ds ∧ ∀ da G, RepAll ⟨K, mg⟩ da G dvs dd
/-- a method m of the class cn -/
structure MetD (P : Program) (w : World) (K : PySem.W.Frag) (mg : Str → Option Value) (base : Heap) (k : Nat) (cn m : Str) (n : Nat) (dd : List D) (den : List D → W → Option (RV × W)) : Prop where
  ex : ∃ (C f : Addr) (fd : FuncData) (ps : List Str) (ds : List Value) (dvs : List V), mg cn = some (.ref C) ∧ Cls K C ∧ Meth K C m f ∧ FnOk P w K mg base CX0 k f fd ps (spD ⟨K, mg⟩ n den) ∧ Binds K fd ps ds ∧ Vals dvs ds ∧ ∀ da G, RepAll ⟨K, mg⟩ da G dvs dd
/-- a property of the class cn -/
structure PrpD (P : Program) (w : World) (K : PySem.W.Frag) (mg : Str → Option Value) (base : Heap) (k : Nat) (cn m : Str) (den : List D → W → Option (RV × W)) : Prop where
  ex : ∃ (C p g : Addr) (fd : FuncData) (ps : List Str), mg cn = some (.ref C) ∧ Cls K C ∧ PropOf K C m p g ∧ FnOk P w K mg base CX0 k g fd ps (spD ⟨K, mg⟩ 1 den) ∧ Binds K fd ps []
/-- an attribute of the class cn -/
structure FldD (K : PySem.W.Frag) (mg : Str → Option Value) (cn f : Str) : Prop where
  ex : ∃ C, mg cn = some (.ref C) ∧ Cls K C ∧ NoAttr K C f
def runD (den : List D → W → Option (RV × W)) (ds : List D) : M RV := fun ρ w => match den ds w with
  | some (r, w') => some (r, ρ, w')
  | none => none
theorem runD_some {den : List D → W → Option (RV × W)} {ds : List D} {ρ : Env} {w : W} {z : RV × Env × W} (h : runD den ds ρ w = some z) : ∃ r w', den ds w = some (r, w') ∧ z = (r, ρ, w') := by
  unfold runD at h
  split at h
  · rename_i r w' e
    exact ⟨r, w', e, (Option.some.inj h).symm⟩
  · cases h
def callM (den : List D → W → Option (RV × W)) (dd : List D) (fa : M (List RV)) : M RV := bindM fa fun rs => bindM (escAll rs) fun ds => runD den (ds ++ dd)
def alt {α : Type} (f g : M α) : M α := fun ρ w => match f ρ w with
  | some z => some z
  | none => g ρ w
theorem RepAll.len2 {c : Ct} {da : Option Addr} {G : Hp} {vs : List V} {ds : List D} (h : RepAll c da G vs ds) : ds.length = vs.length := h.length.symm
section
variable {X : Cx} {e o : Expr} {es : List Expr} {pos p apos : Pos} {x m f cn : Str} {k j n : Nat} {dd : List D} {den : List D → W → Option (RV × W)} {fa : M (List RV)} {fo fe fe' : M RV}
theorem fe_alt (h1 : FE X e fe) (h2 : FE X e fe') : FE X e (alt fe fe') := fun F => ⟨fun pins s σ H Q I q => by
  obtain ⟨O, ρ, w, r, ρ', w', S, e, k⟩ := q
  unfold alt at e
  split at e
  · rename_i z ez
    cases e
    exact (h1 F).run pins s σ H Q I ⟨O, ρ, w, r, ρ', w', S, ez, k⟩
  · exact (h2 F).run pins s σ H Q I ⟨O, ρ, w, r, ρ', w', S, e, k⟩⟩
theorem sp_of {c : Ct} {F : Fm} {O : List Addr} {ρ : Env} {w w' : W} {σ : L2.St} {H : Hp} {vs : List V} {ds : List D} {r : RV} {Q : VK} {E : XK} {n : Nat} (S : SR c F O ρ w σ H) (hr : RepAll c F.dr.da (vis O H) vs ds) (hn : ds.length = n) (hd : den ds w = some (r, w'))
    (q : ∀ v H', SR c F O ρ w' σ H' → Ex (vis O H) (vis O H') → RepR c F (vis O H) O ρ w' σ H' r v → Q v H') : spD c n den vs H Q E :=
  ⟨F.dr, O, w, ds, r, w', S.drO, S.trk, S.draw, hr, hn, hd, fun v H' k hw n => q v H' (S.kept k hw) (vis_kp S.drO k) (n.outK S k hw)⟩
/-- f(..) -/
theorem fe_call (cl : CalD X.prog X.w X.K X.mg X.base k x n dd den) (hr : Room j X.A) (hg : Gl X x) (ha : FA X (e :: es) fa) (hk : k ≤ j := by decide) (hn : (e :: es).length + dd.length = n := by rfl)
    (hdb : NotDebug x := by decide) (he : Plain1 X e es := by rfl) (hpl : PlainR X es pos := by rfl) :
    FE X (.Call (.Name x p) (e :: es) [] pos) (callM den dd fa) := fun F => by
  obtain ⟨f, fd, ps, ds, dvs, FO, hm, kp, b, d, rd⟩ := cl.ex
  refine PE.wk (pe_call FO (hr.mono hk) hg hm kp b d pass0 (ha.run F) hdb he hpl) fun σ H Q q => ?_
  obtain ⟨O, ρ, w, r, ρ', w', S, e, k⟩ := q
  refine tA_then S e fun vs O1 ρ1 w1 H1 rs S1 e1 R1 f1 h1 => ?_
  obtain ⟨ds1, ρ2, w2, h2, h3⟩ := bindM_some h1
  obtain ⟨rfl, O2, S2, k2, r2⟩ := escAll_ok S1 R1 h2
  obtain ⟨r', w3, h4, ez⟩ := runD_some h3
  cases ez
  refine sp_of (E := E0) S2 (r2.append (rd _ _)) ?_ h4 fun v H' S3 e3 R3 => k v O2 H' S3 ((e1.trans k2).trans e3) (R3.less (e1.trans k2))
  rw [List.length_append, r2.len2, ← R1.length, ha.len _ _ _ _ _ f1]
  exact hn
/-- the receiver: an instance of cn whose own attributes do not hide m -/
def selfR (cn m : Str) (r : RV) : M D := bindM (escR r) fun d => match d with
  | .ins c' gs => if c' = cn ∧ gs.lookup m = none then pureM d else failM
  | _ => failM
def methM (cn m : Str) (den : List D → W → Option (RV × W)) (dd : List D) (fo : M RV) (fa : M (List RV)) : M RV :=
  bindM fo fun r => bindM (selfR cn m r) fun d => bindM fa fun rs => bindM (escAll rs) fun ds => runD den (d :: (ds ++ dd))
end
end FD

end sec_FD3
section sec_FD4
set_option maxRecDepth 100000
set_option maxHeartbeats 5000000
/-! FD4: statements. -/
namespace FD
open PySem L2
variable [Tabl]

section
variable {c : Ct} {F : Fm} {G : Hp} {O : List Addr} {ρ ρ' : Env} {w w' : W} {σ : L2.St} {H : Hp} {r : RV} {v : V} {d : D} {i : Nat}
theorem SR.setVal (S : SR c F O ρ w σ H) (i : Nat) (r : Rep c F.dr.da (vis O H) v d) : SR c F O (ρ.set i (some (.val d))) w (σ.set i (some v)) H where
  len := by rw [List.length_set, List.length_set]; exact S.len
  base := S.base
  new := S.new
  sub := S.sub
  drs := S.drs
  trk := S.trk
  draw := S.draw
  val := fun j e h => by
    rcases getElem?_set_some h with ⟨rfl, z⟩ | ⟨n, h⟩
    · cases z
      have hl : i < ρ.length := by
        have := (List.getElem?_eq_some_iff.mp h).1
        rw [List.length_set] at this
        exact this
      exact ⟨v, List.getElem?_set_self (by rw [← S.len]; exact hl), r⟩
    · obtain ⟨u, h1, h2⟩ := S.val j e h
      exact ⟨u, by rw [List.getElem?_set_ne n]; exact h1, h2⟩
  own := fun j e h => by
    rcases getElem?_set_some h with ⟨rfl, z⟩ | ⟨n, h⟩
    · cases z
    · obtain ⟨a, o, h1, h2⟩ := S.own j e h
      exact ⟨a, o, by rw [List.getElem?_set_ne n]; exact h1, h2⟩
  uni := fun j j' e e' a h h' q q' => by
    rcases getElem?_set_some h with ⟨rfl, z⟩ | ⟨n, h⟩
    · cases z
    · rcases getElem?_set_some h' with ⟨rfl, z⟩ | ⟨n', h'⟩
      · cases z
      · rw [List.getElem?_set_ne n] at q
        rw [List.getElem?_set_ne n'] at q'
        exact S.uni j j' e e' a h h' q q'
/-- a hidden thing that no slot owns gets its slot -/
theorem SR.setOwn {a : Addr} {o : HO} (S : SR c F O ρ w σ H) (i : Nat) (hO : a ∈ O) (h0 : a ∉ F.O0) (q : H a = some o) (ob : Obj c F.dr.da (vis O H) o d) (nu : ∀ (j : Nat) e, ρ[j]? = some (some (Slot.own e)) → σ[j]? ≠ some (some (V.ref a))) :
    SR c F O (ρ.set i (some (.own d))) w (σ.set i (some (.ref a))) H where
  len := by rw [List.length_set, List.length_set]; exact S.len
  base := S.base
  new := S.new
  sub := S.sub
  drs := S.drs
  trk := S.trk
  draw := S.draw
  val := fun j e h => by
    rcases getElem?_set_some h with ⟨rfl, z⟩ | ⟨n, h⟩
    · cases z
    · obtain ⟨u, h1, h2⟩ := S.val j e h
      exact ⟨u, by rw [List.getElem?_set_ne n]; exact h1, h2⟩
  own := fun j e h => by
    rcases getElem?_set_some h with ⟨rfl, z⟩ | ⟨n, h⟩
    · cases z
      have hl : i < ρ.length := by
        have := (List.getElem?_eq_some_iff.mp h).1
        rw [List.length_set] at this
        exact this
      exact ⟨a, o, List.getElem?_set_self (by rw [← S.len]; exact hl), hO, h0, q, ob⟩
    · obtain ⟨a, o, h1, h2⟩ := S.own j e h
      exact ⟨a, o, by rw [List.getElem?_set_ne n]; exact h1, h2⟩
  uni := fun j j' e e' b h h' q q' => by
    rcases getElem?_set_some h with ⟨rfl, z⟩ | ⟨n, h⟩
    · rcases getElem?_set_some h' with ⟨rfl, z'⟩ | ⟨n', h'⟩
      · rfl
      · rw [List.getElem?_set_ne n'] at q'
        rcases getElem?_set_some q with ⟨_, y⟩ | ⟨y, _⟩
        · cases y
          exact absurd q' (nu j' e' h')
        · exact absurd rfl y
    · rcases getElem?_set_some h' with ⟨rfl, z'⟩ | ⟨n', h'⟩
      · rw [List.getElem?_set_ne n] at q
        rcases getElem?_set_some q' with ⟨_, y⟩ | ⟨y, _⟩
        · cases y
          exact absurd q (nu j e h)
        · exact absurd rfl y
      · rw [List.getElem?_set_ne n] at q
        rw [List.getElem?_set_ne n'] at q'
        exact S.uni j j' e e' b h h' q q'
def setM (i : Nat) (s : Slot) : M Unit := fun ρ w => some ((), ρ.set i (some s), w)
def asgM (i : Nat) : RV → M Unit
  | .fr d => setM i (.own d)
  | r => bindM (escR r) fun d => setM i (.val d)
theorem asg_ok (S : SR c F O ρ w σ H) (x : Ex G (vis O H)) (R : RepR c F G O ρ w σ H r v) (e : asgM i r ρ w = some ((), ρ', w')) : w' = w ∧ ∃ O', SR c F O' ρ' w (σ.set i (some v)) H ∧ Ex G (vis O' H) := by
  cases r with
  | fr d =>
    cases e
    obtain ⟨a, o, rfl, n, S1, q, ob, x1⟩ := R
    refine ⟨rfl, a :: O, S1.setOwn i List.mem_cons_self (fun z => n (S.sub a z)) q ob (fun j e h z => ?_), x1⟩
    obtain ⟨b, u, h1, h2, _⟩ := S.own j e h
    rw [h1] at z
    cases z
    exact n h2
  | sh d =>
    cases e
    exact ⟨rfl, O, S.setVal i R, x⟩
  | ow j =>
    obtain ⟨d, ρ1, w1, e1, e2⟩ := bindM_some e
    obtain ⟨rfl, O1, S1, k1, r1⟩ := escR_ok S R.hold e1
    cases e2
    exact ⟨rfl, O1, S1.setVal i r1, x.trans k1⟩
end

section
variable {X : Cx} {e : Expr} {pos pos' : Pos} {fe : M RV} {st : Stmt} {rest : List Stmt} {f g : M Fl} {x : Str} {i : Nat}
def nxM : M Unit → M Fl := fun m => bindM m fun _ => pureM .nx
theorem fs_set (hN : X.N.Nodup) (hi : X.N[i]? = some x) (hx : Loc X.env.scope x) (he : FE X e fe) (hs : swapsWith e (some (.Name x pos')) pos.line X.env = pure false := by rfl) (hf : X.fn x = true ∨ X.env.scope.names.lookup x = some .local := by first | exact .inl rfl | exact .inr rfl | assumption) :
    FS X (.Assign [.Name x pos'] e pos) (bindM fe fun r => nxM (asgM i r)) := fun F => PS.wk (ps_set hN hi hx (he F) hs hf) fun E σ H q => by
  obtain ⟨O, ρ, w, fl, ρ', w', S, e, k⟩ := q
  refine tE_then S e fun v O1 ρ1 w1 H1 r1 S1 e1 R1 h1 => ?_
  obtain ⟨_, ρ2, w2, h2, h3⟩ := bindM_some h1
  obtain ⟨rfl, O2, S2, x2⟩ := asg_ok S1 e1 R1 h2
  cases h3
  exact k _ O2 H1 S2 x2
theorem fs_ret (he : FE X e fe) : FS X (.Return (some e) pos) (bindM fe fun r => pureM (.ret r)) := fun F => PS.wk (ps_ret (he F)) fun E σ H q => by
  obtain ⟨O, ρ, w, fl, ρ', w', S, e, k⟩ := q
  refine tE_then S e fun v O1 ρ1 w1 H1 r1 S1 e1 R1 h1 => ?_
  cases h1
  exact k v σ O1 H1 S1 R1
theorem fs_expr (he : FE X e fe) (hs : swapsWith e none pos.line X.env = pure false := by rfl) : FS X (.Expr e pos) (bindM fe fun _ => pureM .nx) := fun F => PS.wk (ps_expr (he F) hs) fun E σ H q => by
  obtain ⟨O, ρ, w, fl, ρ', w', S, e, k⟩ := q
  refine tE_then S e fun v O1 ρ1 w1 H1 r1 S1 e1 R1 h1 => ?_
  cases h1
  exact k σ O1 H1 S1 e1
/-- what never runs -/
theorem fs_never : FS X st failM := fun F => PS.wk ps_never fun E σ H q => by
  obtain ⟨O, ρ, w, fl, ρ', w', S, e, k⟩ := q
  cases e
def seqM (f g : M Fl) : M Fl := bindM f fun fl => match fl with
  | .nx => g
  | fl => pureM fl
theorem fss_nil : FSs X [] (pureM .nx) := fun F => PSs.wk pss_nil fun E σ H q => by
  obtain ⟨O, ρ, w, fl, ρ', w', S, e, k⟩ := q
  cases e
  exact k σ O H S (Ex.refl _)
theorem fss_one (h : FS X st f) : FSs X [st] f := fun F => pss_one (h F)
theorem fss_cons (h : FS X st f) (h2 : FSs X rest g) : FSs X (st :: rest) (seqM f g) := fun F => PSs.wk (pss_cons (h F) (h2 F)) fun E σ H q => by
  obtain ⟨O, ρ, w, fl, ρ', w', S, e, k⟩ := q
  obtain ⟨f1, ρ1, w1, e1, e2⟩ := bindM_some e
  refine ⟨O, ρ, w, f1, ρ1, w1, S, e1, ?_⟩
  cases f1 with
  | nx => exact fun σ1 O1 H1 S1 x1 => ⟨O1, ρ1, w1, fl, ρ', w', S1, e2, k.more x1⟩
  | ret r =>
    cases e2
    exact k
  | bk =>
    cases e2
    exact k
  | ct =>
    cases e2
    exact k
theorem fs_if {t : Expr} {a b : List Stmt} {ft : M Bool} (ht : FT X t ft) (ha : FSs X a f) (hb : FSs X b g) : FS X (.If t a b pos) (ifM ft f g) := fun F => PS.wk (ps_if (ht F) (ha F) (hb F)) fun E σ H q => by
  obtain ⟨O, ρ, w, fl, ρ', w', S, e, k⟩ := q
  refine tT_then S e fun b O1 ρ1 w1 H1 S1 e1 h1 => ?_
  cases b with
  | true => exact ⟨O1, ρ1, w1, fl, ρ', w', S1, h1, k.more e1⟩
  | false => exact ⟨O1, ρ1, w1, fl, ρ', w', S1, h1, k.more e1⟩
end

/-! ### targets -/
/-- a target: the slots js may change -/
def tG (c : Ct) (F : Fm) (js : List Nat) (g : D → M Unit) : TG := fun v σ H Q => ∃ O ρ w d ρ' w', SR c F O ρ w σ H ∧ Rep c F.dr.da (vis O H) v d ∧ g d ρ w = some ((), ρ', w') ∧
  ∀ σ' O', SR c F O' ρ' w' σ' H → Ex (vis O H) (vis O' H) → σ'.length = σ.length → (∀ j, j ∉ js → σ'[j]? = σ[j]?) → Q σ' H
def tGs (c : Ct) (F : Fm) (js : List Nat) (g : List D → M Unit) : TGs := fun vs σ H Q => ∃ O ρ w ds ρ' w', SR c F O ρ w σ H ∧ RepAll c F.dr.da (vis O H) vs ds ∧ g ds ρ w = some ((), ρ', w') ∧
  ∀ σ' O', SR c F O' ρ' w' σ' H → Ex (vis O H) (vis O' H) → σ'.length = σ.length → (∀ j, j ∉ js → σ'[j]? = σ[j]?) → Q σ' H
def FG (X : Cx) (tg : Expr) (js : List Nat) (g : D → M Unit) : Prop := ∀ F, PG X tg (tG (ct X) F js g)
def FGs (X : Cx) (ts : List Expr) (js : List Nat) (g : List D → M Unit) : Prop := ∀ F, PGs X ts (tGs (ct X) F js g)
theorem PG.wk {X : Cx} {e : Expr} {t t' : TG} (h : PG X e t) (k : ∀ v σ H Q, t' v σ H Q → t v σ H Q) : PG X e t' := ⟨fun pins s σ H v u Q I r q => h.run pins s σ H v u Q I r (k v σ H Q q)⟩
theorem PGs.wk {X : Cx} {e : List Expr} {t t' : TGs} (h : PGs X e t) (k : ∀ v σ H Q, t' v σ H Q → t v σ H Q) : PGs X e t' := ⟨fun pins s σ H v u Q I r q => h.run pins s σ H v u Q I r (k v σ H Q q)⟩
def gNameM (i : Nat) : D → M Unit := fun d => setM i (.val d)
def gNilM : List D → M Unit
  | [] => pureM ()
  | _ => failM
def gConsM (g : D → M Unit) (h : List D → M Unit) : List D → M Unit
  | d :: ds => bindM (g d) fun _ => h ds
  | _ => failM
def gTupM (g : List D → M Unit) : D → M Unit
  | .tup ds => g ds
  | _ => failM
section
variable {X : Cx} {e : Expr} {es : List Expr} {pos : Pos} {fe : M RV} {x : Str} {i : Nat} {js js' : List Nat}
theorem fg_name (hN : X.N.Nodup) (hi : X.N[i]? = some x) (hx : Loc X.env.scope x) (hf : X.fn x = true ∨ X.env.scope.names.lookup x = some .local := by first | exact .inl rfl | exact .inr rfl | assumption) : FG X (.Name x pos) [i] (gNameM i) := fun F => PG.wk (pg_name hN hi hx hf) fun v σ H Q q => by
  obtain ⟨O, ρ, w, d, ρ', w', S, r, e, k⟩ := q
  cases e
  exact k _ O (S.setVal i r) (Ex.refl _) (by rw [List.length_set]) fun j hj => List.getElem?_set_ne fun z => hj (by rw [z]; exact List.mem_singleton.mpr rfl)
theorem fgs_nil : FGs X [] [] gNilM := fun F => PGs.wk pgs_nil fun vs σ H Q q => by
  obtain ⟨O, ρ, w, ds, ρ', w', S, r, e, k⟩ := q
  cases r with
  | nil =>
    cases e
    exact ⟨rfl, k σ O S (Ex.refl _) rfl fun _ _ => rfl⟩
  | cons _ _ => cases e
theorem fgs_cons {g : D → M Unit} {h : List D → M Unit} (h1 : FG X e js g) (h2 : FGs X es js' h) (hs : (assignEach (e :: es) X.env).map (·.2) = assign e X.env :: (assignEach es X.env).map (·.2) := by rfl) : FGs X (e :: es) (js ++ js') (gConsM g h) := fun F => PGs.wk (pgs_cons (h1 F) (h2 F) hs) fun vs σ H Q q => by
  obtain ⟨O, ρ, w, ds, ρ', w', S, r, e, k⟩ := q
  cases r with
  | nil => cases e
  | cons r rr =>
    obtain ⟨_, ρ1, w1, e1, e2⟩ := bindM_some e
    refine ⟨_, _, rfl, O, ρ, w, _, ρ1, w1, S, r, e1, fun σ1 O1 S1 x1 l1 k1 => ?_⟩
    refine ⟨O1, ρ1, w1, _, ρ', w', S1, rr.mono x1, e2, fun σ2 O2 S2 x2 l2 k2 => k σ2 O2 S2 (x1.trans x2) (l2.trans l1) fun j hj => ?_⟩
    rw [k2 j fun z => hj (List.mem_append_right _ z), k1 j fun z => hj (List.mem_append_left _ z)]
theorem fg_tup {k : Nat} {g : List D → M Unit} (hc : X.calm = true) (h : FGs X es js g) (hst : (assignEach es X.env).findIdx? (·.1) = none := by rfl) (n : Nat) (hn : (assignEach es X.env).length = n := by rfl) (hg : ∀ ds ρ w z, g ds ρ w = some z → ds.length = n) : FG X (.Tuple es k pos) js (gTupM g) := fun F => PG.wk (pg_tup hc (h F) hn hst) fun v σ H Q q => by
  obtain ⟨O, ρ, w, d, ρ', w', S, r, e, k⟩ := q
  cases r with
  | @tup a xs ds s r => exact ⟨a, xs, rfl, .inl (.inl (vis_ex _ _ s)), by rw [r.length]; exact hg _ _ _ _ e, O, ρ, w, ds, ρ', w', S, r, e, k⟩
  | _ => cases e
theorem gNil_len : ∀ ds ρ w z, gNilM ds ρ w = some z → ds.length = 0
  | [], _, _, _, _ => rfl
  | _ :: _, _, _, _, h => by cases h
theorem gCons_len {g : D → M Unit} {h : List D → M Unit} {n : Nat} (k : ∀ ds ρ w z, h ds ρ w = some z → ds.length = n) : ∀ ds ρ w z, gConsM g h ds ρ w = some z → ds.length = n + 1
  | [], _, _, _, q => by cases q
  | _ :: ds, _, _, _, q => by
    obtain ⟨_, ρ1, w1, e1, e2⟩ := bindM_some q
    rw [List.length_cons, k ds _ _ _ e2]
/-- target = e -/
theorem fs_asg {tg : Expr} {g : D → M Unit} (he : FE X e fe) (hg : FG X tg js g) (hs : swapsWithSole [tg] e pos.line X.env = pure false := by rfl) (hw : swappedStores [tg] e X.env = pure none := by rfl) (h1 : (assignEach [tg] X.env).map (·.2) = [assign tg X.env] := by rfl) :
    FS X (.Assign [tg] e pos) (bindM fe fun r => bindM (escR r) fun d => nxM (g d)) := fun F => PS.wk (ps_asg (he F) (hg F) hs hw h1) fun E σ H q => by
  obtain ⟨O, ρ, w, fl, ρ', w', S, e, k⟩ := q
  refine tE_then S e fun v O1 ρ1 w1 H1 r1 S1 e1 R1 h1 => ?_
  obtain ⟨d, ρ2, w2, h2, h3⟩ := bindM_some h1
  obtain ⟨rfl, O2, S2, k2, r2⟩ := escR_ok S1 R1.hold h2
  obtain ⟨_, ρ3, w3, h4, h5⟩ := bindM_some h3
  cases h5
  exact ⟨O2, _, _, d, ρ', w', S2, r2, h4, fun σ' O' S' x' _ _ => k σ' O' H1 S' ((e1.trans k2).trans x')⟩
end

/-! ### a, b = x, y: what is new stays new -/
/-- values that are pending: the new ones (at P) hidden, of no slot -/
inductive Got (c : Ct) (da : Option Addr) (O : List Addr) (H : Hp) : List Addr → List RV → List V → Prop
  | nil : Got c da O H [] [] []
  | sh {P : List Addr} {rs : List RV} {vs : List V} {v : V} {d : D} : Rep c da (vis O H) v d → Got c da O H P rs vs → Got c da O H P (.sh d :: rs) (v :: vs)
  | fr {P : List Addr} {rs : List RV} {vs : List V} {a : Addr} {o : HO} {d : D} : a ∈ O → a ∉ P → H a = some o → Obj c da (vis O H) o d → Got c da O H P rs vs → Got c da O H (a :: P) (.fr d :: rs) (.ref a :: vs)
theorem Got.mono {c : Ct} {da : Option Addr} {O O' : List Addr} {H : Hp} (s : ∀ a ∈ O, a ∈ O') (e : Ex (vis O H) (vis O' H)) : ∀ {P : List Addr} {rs : List RV} {vs : List V}, Got c da O H P rs vs → Got c da O' H P rs vs
  | _, _, _, .nil => .nil
  | _, _, _, .sh h r => .sh (h.mono e) (Got.mono s e r)
  | _, _, _, .fr h1 h2 h3 h4 r => .fr (s _ h1) h2 h3 (h4.mono e) (Got.mono s e r)
/-- pending values of the frame F -/
def Pend (c : Ct) (F : Fm) (O : List Addr) (ρ : Env) (σ : L2.St) (H : Hp) (rs : List RV) (vs : List V) : Prop := ∃ P, Got c F.dr.da O H P rs vs ∧ ∀ a ∈ P, a ∉ F.O0 ∧ ∀ (j : Nat) e, ρ[j]? = some (some (Slot.own e)) → σ[j]? ≠ some (some (V.ref a))
/-- the frame with one more thing that must stand -/
def Fm.and (F : Fm) (a : Addr) (o : HO) : Fm := ⟨F.dr, a :: F.O0, fun b => if b = a then some o else F.H0 b⟩
section
variable {c : Ct} {F : Fm} {O : List Addr} {ρ : Env} {w : W} {σ : L2.St} {H : Hp} {a : Addr} {o : HO}
theorem SR.in (S : SR c F (a :: O) ρ w σ H) (h0 : a ∉ F.O0) (nu : ∀ (j : Nat) e, ρ[j]? = some (some (Slot.own e)) → σ[j]? ≠ some (some (V.ref a))) (q : H a = some o) : SR c (F.and a o) (a :: O) ρ w σ H where
  len := S.len
  base := fun b u h n => by
    by_cases z : b = a
    · subst z
      have h : (if b = b then some o else F.H0 b) = some u := h
      rw [if_pos rfl] at h
      cases h
      exact q
    · have h : (if b = a then some o else F.H0 b) = some u := h
      rw [if_neg z] at h
      exact S.base b u h n
  new := fun b h n => by
    have z : b ≠ a := fun z => n (by rw [z]; exact List.mem_cons_self)
    show (if b = a then some o else F.H0 b) = none
    rw [if_neg z]
    exact S.new b h fun y => n (List.mem_cons_of_mem _ y)
  sub := fun b h => by
    rcases List.mem_cons.mp h with z | z
    · rw [z]
      exact List.mem_cons_self
    · exact S.sub b z
  drs := fun b h => List.mem_cons_of_mem _ (S.drs b h)
  trk := S.trk
  draw := S.draw
  val := S.val
  own := fun i d h => by
    obtain ⟨b, u, h1, h2, h3, h4, h5⟩ := S.own i d h
    refine ⟨b, u, h1, h2, fun z => ?_, h4, h5⟩
    rcases List.mem_cons.mp z with z | z
    · rw [z] at h1
      exact nu i d h h1
    · exact h3 z
  uni := S.uni
theorem SR.out (S : SR c (F.and a o) O ρ w σ H) (h0 : a ∉ F.O0) (hn : F.H0 a = none) (hd : ∀ b ∈ F.dr.as, b ∈ F.O0) : SR c F O ρ w σ H ∧ H a = some o ∧ a ∈ O ∧ ∀ (j : Nat) e, ρ[j]? = some (some (Slot.own e)) → σ[j]? ≠ some (some (V.ref a)) := by
  have ha : a ∉ F.dr.as := fun z => h0 (hd a z)
  refine ⟨⟨S.len, fun b u h n => S.base b u ?_ n, fun b h n => ?_, fun b h => S.sub b (List.mem_cons_of_mem _ h), hd, S.trk, S.draw, S.val, fun i d h => ?_, S.uni⟩, S.base a o (show (if a = a then some o else F.H0 a) = some o from if_pos rfl) ha, S.sub a List.mem_cons_self, fun j e h z => ?_⟩
  · show (if b = a then some o else F.H0 b) = some u
    rw [if_neg fun z => by rw [z, hn] at h; cases h]
    exact h
  · by_cases z : b = a
    · rw [z]
      exact hn
    · have q : (if b = a then some o else F.H0 b) = none := S.new b h fun y => by
        rcases List.mem_cons.mp y with y | y
        · exact z y
        · exact n y
      rw [if_neg z] at q
      exact q
  · obtain ⟨b, u, h1, h2, h3, h4, h5⟩ := S.own i d h
    exact ⟨b, u, h1, h2, fun z => h3 (List.mem_cons_of_mem _ z), h4, h5⟩
  · obtain ⟨b, u, h1, h2, h3, _⟩ := S.own j e h
    rw [h1] at z
    cases z
    exact h3 List.mem_cons_self
end
/-- what came out, no slot's own -/
def offR : RV → M RV
  | .ow i => bindM (escR (.ow i)) fun d => pureM (.sh d)
  | r => pureM r
def pend1 (f : M RV) (g : M (List RV)) : M (List RV) := bindM f fun r => bindM (offR r) fun r' => bindM g fun rs => pureM (r' :: rs)
def tP (c : Ct) (F : Fm) (f : M (List RV)) : TA := fun σ H Q => ∃ O ρ w rs ρ' w', SR c F O ρ w σ H ∧ f ρ w = some (rs, ρ', w') ∧
  ∀ vs O' H', SR c F O' ρ' w' σ H' → Ex (vis O H) (vis O' H') → Pend c F O' ρ' σ H' rs vs → Q vs H'
def FP (X : Cx) (es : List Expr) (f : M (List RV)) : Prop := ∀ F, PA X es (tP (ct X) F f)
section
variable {X : Cx} {e : Expr} {es : List Expr} {pos : Pos} {fe : M RV} {g : M (List RV)}
theorem fp_nil : FP X [] (pureM []) := fun F => PA.wk pa_nil fun σ H Q q => by
  obtain ⟨O, ρ, w, r, ρ', w', S, e, k⟩ := q
  cases e
  exact k [] O H S (Ex.refl _) ⟨[], .nil, fun _ z => nomatch z⟩
theorem fp_cons (ha : FE X e fe) (hr : FP X es g) (hs : starEach (e :: es) X.env = (false, eval e X.env) :: starEach es X.env := by rfl) : FP X (e :: es) (pend1 fe g) := fun F => ⟨fun p pins s σ H Q I q => by
  obtain ⟨O, ρ, w, rs, ρ', w', S, e, k⟩ := q
  rw [hs]
  show wpAny _ _ (spliced ((false, eval _ X.env) :: backTo p (starEach es X.env))) _ _ s
  refine Calls.spliced_cons (thn ((ha F).run pins s σ H _ I (tE_then (Q := fun v H1 => ∃ O1 ρ1 w1 r1, SR (ct X) F O1 ρ1 w1 σ H1 ∧ Ex (vis O H) (vis O1 H1) ∧ RepR (ct X) F (vis O H) O1 ρ1 w1 σ H1 r1 v ∧ (bindM (offR r1) fun r' => bindM g fun rs => pureM (r' :: rs)) ρ1 w1 = some (rs, ρ', w')) S e fun v O1 ρ1 w1 H1 r1 S1 e1 R1 h1 => ⟨O1, ρ1, w1, r1, S1, e1, R1, h1⟩)) fun u s1 ⟨x, H1, I1, rx, O1, ρ1, w1, r1, S1, e1, R1, h1⟩ => ?_)
  obtain ⟨r2, ρ2, w2, h2, h3⟩ := bindM_some h1
  obtain ⟨rs3, ρ3, w3, h4, h5⟩ := bindM_some h3
  cases h5
  have old : ∀ {d : D} {O2 : List Addr}, SR (ct X) F O2 ρ2 w2 σ H1 → Ex (vis O H) (vis O2 H1) → Rep (ct X) F.dr.da (vis O2 H1) x d → r2 = .sh d → wpAny (model X.prog X.w) X.A (spliced (backTo p (starEach es X.env))) (fun us s2 => AP X pins σ Q (u :: us) s2) X.xe s1 := fun {d O2} S2 x2 rp er => by
    subst er
    refine thn ((hr F).run p pins s1 σ H1 _ I1 ⟨O2, ρ2, w2, rs3, ρ', w', S2, h4, fun vs O3 H3 S3 x3 P3 => ?_⟩) fun us s2 ⟨vs, H3, I3, r3, q3⟩ => ⟨x :: vs, H3, I3, .cons rx r3, q3⟩
    obtain ⟨P, gt, pp⟩ := P3
    exact k (x :: vs) O3 H3 S3 (x2.trans x3) ⟨P, .sh (rp.mono x3) gt, pp⟩
  cases r1 with
  | sh d =>
    cases h2
    exact old S1 e1 R1 rfl
  | ow i =>
    obtain ⟨d, ρ4, w4, h6, h7⟩ := bindM_some h2
    obtain ⟨rfl, O2, S2, k2, r2'⟩ := escR_ok S1 R1.hold h6
    cases h7
    exact old S2 (e1.trans k2) r2' rfl
  | fr d =>
    cases h2
    obtain ⟨a, o, rfl, n, S2, q, ob, x2⟩ := R1
    have nF : a ∉ F.O0 := fun z => n (S1.sub a z)
    have nu : ∀ (j : Nat) e, ρ1[j]? = some (some (Slot.own e)) → σ[j]? ≠ some (some (V.ref a)) := fun j e h z => by
      obtain ⟨b, u, h1, h2, _⟩ := S1.own j e h
      rw [h1] at z
      cases z
      exact n h2
    have S3 := S2.in nF nu q
    refine thn ((hr (F.and a o)).run p pins s1 σ H1 _ I1 ⟨a :: O1, _, _, rs3, ρ', w', S3, h4, fun vs O3 H3 S4 x3 P3 => ?_⟩) fun us s2 ⟨vs, H3, I3, r3, q3⟩ => ⟨_ :: vs, H3, I3, .cons rx r3, q3⟩
    obtain ⟨S5, q5, m5, u5⟩ := S4.out nF (S2.new a List.mem_cons_self nF) S1.drs
    obtain ⟨P, gt, pp⟩ := P3
    refine k (.ref a :: vs) O3 H3 S5 (x2.trans x3) ⟨a :: P, .fr m5 (fun z => (pp a z).1 List.mem_cons_self) q5 (ob.mono x3) gt, fun b hb => ?_⟩
    rcases List.mem_cons.mp hb with z | z
    · rw [z]
      exact ⟨nF, u5⟩
    · exact ⟨fun y => (pp b z).1 (List.mem_cons_of_mem _ y), (pp b z).2⟩⟩
def parM : List Nat → List RV → M Unit
  | [], [] => pureM ()
  | i :: is, .sh d :: rs => bindM (setM i (.val d)) fun _ => parM is rs
  | i :: is, .fr d :: rs => bindM (setM i (.own d)) fun _ => parM is rs
  | _, _ => failM
def setAll (σ : L2.St) : List Nat → List V → L2.St
  | i :: is, v :: vs => setAll (σ.set i (some v)) is vs
  | _, _ => σ
theorem par_ok {c : Ct} {F : Fm} : ∀ {is : List Nat} {rs : List RV} {vs : List V} {O : List Addr} {ρ ρ' : Env} {w w' : W} {σ : L2.St} {H : Hp}, SR c F O ρ w σ H → Pend c F O ρ σ H rs vs → parM is rs ρ w = some ((), ρ', w') → SR c F O ρ' w' (setAll σ is vs) H
  | [], _, _, O, ρ, ρ', w, w', σ, H, S, ⟨P, gt, pp⟩, e => by
    cases gt with
    | nil =>
      cases e
      exact S
    | _ => cases e
  | i :: is, _, _, O, ρ, ρ', w, w', σ, H, S, ⟨P, gt, pp⟩, e => by
    cases gt with
    | nil => cases e
    | @sh P rs vs v d r gt =>
      obtain ⟨_, ρ1, w1, e1, e2⟩ := bindM_some e
      cases e1
      show SR c F O ρ' w' (setAll (σ.set i (some v)) is vs) H
      refine par_ok (S.setVal i r) ⟨P, gt, fun a h => ⟨(pp a h).1, fun j e q z => ?_⟩⟩ e2
      rcases getElem?_set_some q with ⟨rfl, y⟩ | ⟨n, q⟩
      · cases y
      · rw [List.getElem?_set_ne n] at z
        exact (pp a h).2 j e q z
    | @fr P rs vs a o d m n q ob gt =>
      obtain ⟨_, ρ1, w1, e1, e2⟩ := bindM_some e
      cases e1
      obtain ⟨p1, p2⟩ := pp a List.mem_cons_self
      show SR c F O ρ' w' (setAll (σ.set i (some (.ref a))) is vs) H
      refine par_ok (S.setOwn i m p1 q ob p2) ⟨P, gt, fun b h => ⟨(pp b (List.mem_cons_of_mem _ h)).1, fun j e q z => ?_⟩⟩ e2
      rcases getElem?_set_some q with ⟨rfl, y⟩ | ⟨n', q⟩
      · rcases getElem?_set_some z with ⟨_, y⟩ | ⟨y, _⟩
        · cases y
          exact n h
        · exact y rfl
      · rw [List.getElem?_set_ne n'] at z
        exact (pp b (List.mem_cons_of_mem _ h)).2 j e q z
theorem Got.len2 {c : Ct} {da : Option Addr} {O : List Addr} {H : Hp} {P : List Addr} {rs : List RV} {vs : List V} (g : Got c da O H P rs vs) : rs.length = vs.length := by
  induction g with
  | nil => rfl
  | sh _ _ ih => simp [ih]
  | fr _ _ _ _ _ ih => simp [ih]
theorem parM_len : ∀ {is : List Nat} {rs : List RV} {ρ : Env} {w : W} {z : Unit × Env × W}, parM is rs ρ w = some z → rs.length = is.length
  | [], [], _, _, _, _ => rfl
  | [], _ :: _, _, _, _, h => by cases h
  | _ :: _, [], _, _, _, h => by cases h
  | _ :: is, .sh _ :: rs, _, _, _, h => by
    obtain ⟨_, ρ1, w1, _, e2⟩ := bindM_some h
    rw [List.length_cons, parM_len e2, List.length_cons]
  | _ :: is, .fr _ :: rs, _, _, _, h => by
    obtain ⟨_, ρ1, w1, _, e2⟩ := bindM_some h
    rw [List.length_cons, parM_len e2, List.length_cons]
  | _ :: is, .ow _ :: rs, _, _, _, h => by cases h
variable {i j l : Nat} {x y z : Str} {a b c' : Expr} {px py pz pt pt2 : Pos} {kt k2 : Nat} {fp : M (List RV)}
/-- names are set together; the display is not made -/
abbrev Swaps (X : Cx) (tg e : Expr) (ns : List Str) : Prop := swappedStores [tg] e X.env = pure (some ns)
abbrev NoSole (X : Cx) (tg e : Expr) (pos : Pos) : Prop := swapsWithSole [tg] e pos.line X.env = pure false
theorem fs_par2 (hc : X.calm = true) (hN : X.N.Nodup) (hi : X.N[i]? = some x) (hj : X.N[j]? = some y) (hij : i ≠ j)
    (hx : X.env.scope.names.lookup x = some .local) (hy : X.env.scope.names.lookup y = some .local) (ha : FP X [a, b] fp)
    (hw : Swaps X (.Tuple [.Name x px, .Name y py] kt pt) (.Tuple [a, b] k2 pt2) [x, y])
    (hs : NoSole X (.Tuple [.Name x px, .Name y py] kt pt) (.Tuple [a, b] k2 pt2) pos := by rfl) :
    FS X (.Assign [.Tuple [.Name x px, .Name y py] kt pt] (.Tuple [a, b] k2 pt2) pos) (bindM fp fun rs => nxM (parM [i, j] rs)) := fun F => PS.wk (ps_par hc hN hi hj hij hx hy (ha F) hw hs) fun E σ H q => by
  obtain ⟨O, ρ, w, fl, ρ', w', S, e, k⟩ := q
  obtain ⟨rs, ρ1, w1, e1, e2⟩ := bindM_some e
  obtain ⟨_, ρ2, w2, e3, e4⟩ := bindM_some e2
  cases e4
  refine ⟨O, ρ, w, rs, ρ1, w1, S, e1, fun vs O1 H1 S1 x1 P1 => ?_⟩
  have S2 := par_ok S1 P1 e3
  obtain ⟨P, gt, _⟩ := P1
  have lv : vs.length = 2 := by rw [← gt.len2, parM_len e3] <;> rfl
  match vs, lv, S2 with
  | [v1, v2], _, S2 => exact ⟨v1, v2, rfl, k _ O1 H1 S2 x1⟩
end
end FD

end sec_FD4
section sec_FD5
set_option maxRecDepth 100000
set_option maxHeartbeats 5000000
/-! FD5: what is walked; for, while, list comprehensions. -/
namespace FD
open PySem L2
variable [Tabl]

/-- J goes through ds, while what was to be seen (G) is to be seen -/
def Wk (c : Ct) (dr : Dr) (J : It) (G : Hp) (ds : List D) : Prop := ∀ (i : Nat) O H, Ex G (vis O H) → (∀ a ∈ O, ∃ o, H a = some o ∧ NT o) → (∀ t, dr.at_ = some t → H t.2.2 = some (.lst (dr.cl.map V.int))) → (∀ d, ds[i]? = some d → J.go i H ∧ ∀ x H', J.yld i H x H' → Ex H H' ∧ Rep c dr.da (vis O H') x d) ∧ (ds.length = i → J.stop i H)
theorem SR.cel {c : Ct} {F : Fm} {O : List Addr} {ρ : Env} {w : W} {σ : L2.St} {H : Hp} (S : SR c F O ρ w σ H) : ∀ t, F.dr.at_ = some t → H t.2.2 = some (.lst (F.dr.cl.map V.int)) := fun t e => by
  obtain ⟨_, _, h, _, q⟩ := S.draw.1 t e
  rw [← q]
  exact h
def tI (c : Ct) (F : Fm) (f : M (List D)) : TI := fun σ H R => ∃ O ρ w ds ρ' w', SR c F O ρ w σ H ∧ f ρ w = some (ds, ρ', w') ∧
  ∀ J O' H', SR c F O' ρ' w' σ H' → Ex (vis O H) (vis O' H') → Wk c F.dr J (vis O' H') ds → R J H'
def FI (X : Cx) (tg iter : Expr) (f : M (List D)) : Prop := ∀ F, PI X tg iter (tI (ct X) F f)
def iterD : D → Option (List D)
  | .lst ds => some ds
  | .tup ds => some ds
  | .ktup ds => some ds
  | .str x => some (x.cps.toList.map fun c => .str ⟨#[c]⟩)
  | .scr ns => some (ns.map D.int)
  | _ => none
def iterM (r : RV) : M (List D) := bindM (escR r) fun d => fun ρ w => match iterD d with
  | some ds => some (ds, ρ, w)
  | none => none
section
variable {c : Ct} {dr : Dr} {G : Hp}
theorem wk_list {a : Addr} {xs : List V} {ds : List D} (s0 : G a = some (.lst xs)) (r : RepAll c dr.da G xs ds) : Wk c dr (Itl c.K a) G ds := fun i O H e _ _ => by
  have s' : SqL c.K H a xs := (e.trans vis_ex).sl (SqL.of s0)
  refine ⟨fun d h => ?_, fun h => ⟨xs, s', by rw [r.length]; exact Nat.le_of_eq h⟩⟩
  obtain ⟨v, h1, h2⟩ := r.get h
  refine ⟨⟨xs, v, s', h1⟩, fun x H' y => ?_⟩
  obtain ⟨rfl, y⟩ := y
  have z := y xs s'
  rw [h1] at z
  cases z
  exact ⟨Ex.refl _, h2.mono e⟩
theorem wk_scr {a : Addr} {ns : List Int} (s : SqL c.K G a (ns.map V.int)) : Wk c dr (Itl c.K a) G (ns.map D.int) := fun i O H e _ _ => by
  have s' : SqL c.K H a (ns.map V.int) := (e.trans vis_ex).sl s
  refine ⟨fun d h => ?_, fun h => ⟨_, s', by simpa using Nat.le_of_eq h⟩⟩
  obtain ⟨v, h1, h2⟩ := (RepAll.ints (c := c) (da := dr.da) (G := G) ns).get h
  refine ⟨⟨_, v, s', h1⟩, fun x H' y => ?_⟩
  obtain ⟨rfl, y⟩ := y
  have z := y _ s'
  rw [h1] at z
  cases z
  exact ⟨Ex.refl _, h2.mono e⟩
theorem wk_tup {a : Addr} {xs : List V} {ds : List D} (s : SqT c.K G a xs) (r : RepAll c dr.da G xs ds) : Wk c dr (Itt c.K a) G ds := fun i O H e _ _ => by
  have s' : SqT c.K H a xs := (e.trans vis_ex).st s
  refine ⟨fun d h => ?_, fun h => ⟨xs, s', by rw [r.length]; exact Nat.le_of_eq h⟩⟩
  obtain ⟨v, h1, h2⟩ := r.get h
  refine ⟨⟨xs, v, s', h1⟩, fun x H' y => ?_⟩
  obtain ⟨rfl, y⟩ := y
  have z := y xs s'
  rw [h1] at z
  cases z
  exact ⟨Ex.refl _, h2.mono e⟩
theorem wk_str {x : Str} : Wk c dr (Its x) G (x.cps.toList.map fun c => D.str ⟨#[c]⟩) := fun i O H e _ _ => by
  refine ⟨fun d h => ?_, fun h => ?_⟩
  · rw [List.getElem?_map] at h
    cases q : x.cps.toList[i]? with
    | none =>
      rw [q] at h
      cases h
    | some k =>
      rw [q] at h
      cases h
      have hl := (List.getElem?_eq_some_iff.mp q).1
      refine ⟨by show i < x.cps.size; simpa using hl, fun v H' y => ?_⟩
      obtain ⟨rfl, k', hk, rfl⟩ := y
      have hk2 : x.cps.toList[i]? = some k' := by simpa using hk
      rw [q] at hk2
      cases hk2
      exact ⟨Ex.refl _, .str _⟩
  · show x.cps.size ≤ i
    simpa using Nat.le_of_eq h
theorem wk_rng {lo : Int} {n : Nat} : Wk c dr (Itr lo n) G ((List.range n).map fun (i : Nat) => D.int (lo + (i : Int))) := fun i O H e _ _ => by
  refine ⟨fun d h => ?_, fun h => ?_⟩
  · rw [List.getElem?_map] at h
    cases q : (List.range n)[i]? with
    | none =>
      rw [q] at h
      cases h
    | some k =>
      rw [q] at h
      cases h
      obtain ⟨hl, hk⟩ := List.getElem?_eq_some_iff.mp q
      rw [List.getElem_range] at hk
      subst hk
      refine ⟨by show i < n; simpa using hl, fun v H' y => ?_⟩
      obtain ⟨rfl, rfl⟩ := y
      exact ⟨Ex.refl _, .int _⟩
  · show n ≤ i
    simpa using Nat.le_of_eq h
end
section
variable {X : Cx} {tg l e : Expr} {pos p : Pos} {fe : M RV} {fa : M (List RV)}
theorem fi_val (he : FE X l fe) : FI X tg l (bindM fe fun r => iterM r) := fun F => ⟨fun pins s σ H R I q => by
  obtain ⟨O, ρ, w, ds, ρ', w', S, e, k⟩ := q
  obtain ⟨r, ρ1, w1, e1, e2⟩ := bindM_some e
  obtain ⟨d, ρ2, w2, e3, e4⟩ := bindM_some e2
  have go : ∀ (Q : VK), (∀ v O2 H2, SR (ct X) F O2 ρ2 w2 σ H2 → Ex (vis O H) (vis O2 H2) → Rep (ct X) F.dr.da (vis O2 H2) v d → Q v H2) → tE (ct X) F fe σ H Q := fun Q hq => ⟨O, ρ, w, r, ρ1, w1, S, e1, fun v O1 H1 S1 x1 R1 => by
    obtain ⟨rfl, O2, S2, k2, r2⟩ := escR_ok S1 R1.hold e3
    exact hq v O2 H1 S2 (x1.trans k2) r2⟩
  cases d with
  | lst es =>
    cases e4
    refine (pi_list (he F)).run pins s σ H R I (go _ fun v O2 H2 S2 x2 r2 => ?_)
    cases r2 with
    | lst s r => exact ⟨_, rfl, ⟨_, vis_ex.sl (SqL.of s)⟩, k _ O2 H2 S2 x2 (wk_list s r)⟩
  | tup es =>
    cases e4
    refine (pi_tup (he F)).run pins s σ H R I (go _ fun v O2 H2 S2 x2 r2 => ?_)
    cases r2 with
    | tup s r => exact ⟨_, rfl, ⟨_, .inl (.inl (vis_ex _ _ s))⟩, k _ O2 H2 S2 x2 (wk_tup (.inl (.inl s)) r)⟩
  | ktup es =>
    cases e4
    refine (pi_tup (he F)).run pins s σ H R I (go _ fun v O2 H2 S2 x2 r2 => ?_)
    cases r2 with
    | ktup s r => exact ⟨_, rfl, ⟨_, vis_ex.st s⟩, k _ O2 H2 S2 x2 (wk_tup s r)⟩
  | str x =>
    cases e4
    refine (pi_str (he F)).run pins s σ H R I (go _ fun v O2 H2 S2 x2 r2 => ?_)
    cases r2
    exact ⟨_, rfl, k _ O2 H2 S2 x2 wk_str⟩
  | scr ns =>
    cases e4
    refine (pi_list (he F)).run pins s σ H R I (go _ fun v O2 H2 S2 x2 r2 => ?_)
    cases r2 with
    | scr s => exact ⟨_, rfl, ⟨_, vis_ex.sl s⟩, k _ O2 H2 S2 x2 (wk_scr s)⟩
  | _ => cases e4⟩
/-- range(n) -/
def rangeM (rs : List RV) : M (List D) := fun ρ w => match peeks ρ rs with
  | some [.int n] => if -1000000 ≤ n ∧ n ≤ 1000000 then some ((List.range n.toNat).map fun (i : Nat) => D.int (i : Int), ρ, w) else none
  | some [.int a, .int b] => if (-1000000 ≤ a ∧ a ≤ 1000000) ∧ (-1000000 ≤ b ∧ b ≤ 1000000) then some ((List.range (b - a).toNat).map fun (i : Nat) => D.int (a + (i : Int)), ρ, w) else none
  | _ => none
theorem fi_range1 (hg : Gl X "range") (hm : X.mg "range" = none) (ha : FA X [e] fa) (hs : starEach [e] X.env = [(false, eval e X.env)] := by rfl) : FI X tg (.Call (.Name "range" p) [e] [] pos) (bindM fa fun rs => rangeM rs) := fun F => ⟨fun pins s σ H R I q => by
  obtain ⟨O, ρ, w, ds, ρ', w', S, e, k⟩ := q
  refine (pi_range1 hg hm (ha.run F) hs).run pins s σ H R I ?_
  refine tA_then S e fun vs O1 ρ1 w1 H1 rs S1 e1 R1 f1 h1 => ?_
  have hl := ha.len _ _ _ _ _ f1
  unfold rangeM at h1
  split at h1
  · rename_i n hp
    split at h1
    · rename_i hn
      cases h1
      have P := R1.peeks S1 hp
      cases P with
      | cons p1 p2 =>
        cases p2
        have z := p1.int
        subst z
        refine ⟨n, rfl, by omega, by omega, k _ O1 H1 S1 e1 ?_⟩
        have W := wk_rng (c := ct X) (dr := F.dr) (G := vis O1 H1) (lo := 0) (n := n.toNat)
        simpa using W
    · cases h1
  · rename_i a b hp
    have P := R1.peeks S1 hp
    cases P with
    | cons _ p2 =>
      cases p2 with
      | cons _ p3 =>
        cases p3
        have := R1.length
        rw [hl] at this
        simp at this
  · cases h1⟩
/-! ### for -/
def forL (asg : D → M Unit) (body : M Fl) : List D → M Fl
  | [] => pureM .nx
  | d :: ds => bindM (asg d) fun _ => bindM body fun fl => match fl with
    | .nx => forL asg body ds
    | .ct => forL asg body ds
    | .bk => pureM .nx
    | .ret r => pureM (.ret r)
def forM (fi : M (List D)) (asg : D → M Unit) (body : M Fl) : M Fl := bindM fi fun ds => forL asg body ds
theorem fs_for {iter : Expr} {body : List Stmt} {fi : M (List D)} {js : List Nat} {g : D → M Unit} {fb : M Fl} (hp : PassesOwn (model X.prog X.w) X.A X.env X.xe) (hc : X.calm = true) (hi : FI X tg iter fi) (hg : FG X tg js g) (hb : FSs X body fb)
    (hs : ∀ x, foldedSetIterable iter X.env x = pure x := by intro _; rfl) : FS X (.For tg iter body [] pos) (forM fi g fb) := fun F => PS.wk (ps_for hp hc (hi F) (hg F) (hb F) hs) fun E σ H q => by
  obtain ⟨O, ρ, w, fl, ρ', w', S, e, k⟩ := q
  obtain ⟨ds, ρ1, w1, e1, e2⟩ := bindM_some e
  refine ⟨O, ρ, w, ds, ρ1, w1, S, e1, fun J O1 H1 S1 x1 W => ?_⟩
  refine ⟨fun i m σ' H' => m = ds.length - i ∧ i ≤ ds.length ∧ ∃ O' ρ' w' z, SR (ct X) F O' ρ' w' σ' H' ∧ Ex (vis O1 H1) (vis O' H') ∧ forL g fb (ds.drop i) ρ' w' = some z ∧ Done (ct X) F (vis O1 H1) z.1 z.2.1 z.2.2 E, ⟨ds.length, by simp, Nat.zero_le _, O1, ρ1, w1, (fl, ρ', w'), S1, Ex.refl _, by simpa using e2, k.more x1⟩, ?_⟩
  rintro i m σ' H' ⟨rfl, hi, O2, ρ2, w2, z, S2, x2, e3, k3⟩
  obtain ⟨hgo, hstop⟩ := W i O2 H' x2 S2.trk S2.cel
  by_cases hlt : i < ds.length
  · obtain ⟨go, yld⟩ := hgo ds[i] (by simp [hlt])
    rw [List.drop_eq_getElem_cons hlt] at e3
    obtain ⟨_, ρ3, w3, e4, e5⟩ := bindM_some e3
    obtain ⟨f4, ρ4, w4, e6, e7⟩ := bindM_some e5
    refine .inr ⟨go, fun σ5 H5 => ∃ O' ρ' w' z, SR (ct X) F O' ρ' w' σ5 H5 ∧ Ex (vis O1 H1) (vis O' H5) ∧ forL g fb (ds.drop (i + 1)) ρ' w' = some z ∧ Done (ct X) F (vis O1 H1) z.1 z.2.1 z.2.2 E, fun σ5 H5 n => ⟨ds.length - (i + 1), by omega, rfl, hlt, n⟩, fun x H3 y => ?_⟩
    obtain ⟨x3, r3⟩ := yld x H3 y
    have x3' := vis_mono (O := O2) x3
    refine ⟨O2, ρ2, w2, ds[i], ρ3, w3, S2.grow x3, r3, e4, fun σ6 O6 S6 x6 _ _ => ⟨O6, ρ3, w3, f4, ρ4, w4, S6, e6, ?_⟩⟩
    have x7 : Ex (vis O1 H1) (vis O6 H3) := (x2.trans x3').trans x6
    cases f4 with
    | nx => exact fun σ8 O8 H8 S8 x8 => ⟨O8, ρ4, w4, z, S8, x7.trans x8, e7, k3⟩
    | ct => exact fun σ8 O8 H8 S8 x8 => ⟨O8, ρ4, w4, z, S8, x7.trans x8, e7, k3⟩
    | bk =>
      cases e7
      exact fun σ8 O8 H8 S8 x8 => k3 σ8 O8 H8 S8 (x7.trans x8)
    | ret r =>
      cases e7
      exact fun v σ8 O8 H8 S8 R8 => k3 v σ8 O8 H8 S8 (R8.less x7)
  · have ei : i = ds.length := by omega
    subst ei
    rw [List.drop_length] at e3
    cases e3
    exact .inl ⟨hstop rfl, k3 σ' O2 H' S2 x2⟩

/-! ### while -/
def whileM (t : M Bool) (body : M Fl) : Nat → M Fl
  | 0 => failM
  | n + 1 => bindM t fun b => if b then bindM body fun fl => match fl with
      | .nx => whileM t body n
      | .ct => whileM t body n
      | .bk => pureM .nx
      | .ret r => pureM (.ret r)
    else pureM .nx
theorem fs_while {c : Expr} {body : List Stmt} {t : M Bool} {fb : M Fl} (n : Nat) (hp : PassesOwn (model X.prog X.w) X.A X.env X.xe) (hc : FT X c t) (hb : FSs X body fb) : FS X (.While c body [] pos) (whileM t fb n) := fun F => PS.wk (ps_while hp (hc F) (hb F)) fun E σ H q => by
  obtain ⟨O, ρ, w, fl, ρ', w', S, e, k⟩ := q
  refine ⟨fun m σ' H' => ∃ O' ρ' w' z, SR (ct X) F O' ρ' w' σ' H' ∧ Ex (vis O H) (vis O' H') ∧ whileM t fb m ρ' w' = some z ∧ Done (ct X) F (vis O H) z.1 z.2.1 z.2.2 E, ⟨n, O, ρ, w, (fl, ρ', w'), S, Ex.refl _, e, k⟩, ?_⟩
  rintro m σ' H' ⟨O2, ρ2, w2, z, S2, x2, e2, k2⟩
  cases m with
  | zero => cases e2
  | succ m =>
    refine tT_then S2 e2 fun b O3 ρ3 w3 H3 S3 x3 h3 => ?_
    cases b with
    | false =>
      cases h3
      show E.nx σ' H3
      exact k2 σ' O3 H3 S3 (x2.trans x3)
    | true =>
      obtain ⟨f4, ρ4, w4, e6, e7⟩ := bindM_some (f := fb) (show bindM fb _ ρ3 w3 = some z from h3)
      have x7 := x2.trans x3
      refine ⟨fun σ5 H5 => ∃ O' ρ' w' z, SR (ct X) F O' ρ' w' σ5 H5 ∧ Ex (vis O H) (vis O' H5) ∧ whileM t fb m ρ' w' = some z ∧ Done (ct X) F (vis O H) z.1 z.2.1 z.2.2 E, fun σ5 H5 n => ⟨m, Nat.lt_succ_self m, n⟩, O3, ρ3, w3, f4, ρ4, w4, S3, e6, ?_⟩
      cases f4 with
      | nx => exact fun σ8 O8 H8 S8 x8 => ⟨O8, ρ4, w4, z, S8, x7.trans x8, e7, k2⟩
      | ct => exact fun σ8 O8 H8 S8 x8 => ⟨O8, ρ4, w4, z, S8, x7.trans x8, e7, k2⟩
      | bk =>
        cases e7
        exact fun σ8 O8 H8 S8 x8 => k2 σ8 O8 H8 S8 (x7.trans x8)
      | ret r =>
        cases e7
        exact fun v σ8 O8 H8 S8 R8 => k2 v σ8 O8 H8 S8 (R8.less x7)
end
end FD

end sec_FD5
section sec_FD6
set_option maxRecDepth 100000
set_option maxHeartbeats 5000000
/-! FD6: list comprehensions. -/
namespace FD
open PySem L2
variable [Tabl]
section
variable {c : Ct} {F : Fm} {O O' : List Addr} {ρ : Env} {w : W} {σ : L2.St} {H : Hp} {a : Addr}
theorem vis_congr (h : ∀ a, a ∈ O ↔ a ∈ O') : vis O H = vis O' H := by
  funext b
  by_cases q : b ∈ O
  · rw [vis_in q, vis_in ((h b).mp q)]
  · rw [vis_out q, vis_out fun z => q ((h b).mpr z)]
theorem SR.congr (S : SR c F O ρ w σ H) (h : ∀ a, a ∈ O ↔ a ∈ O') : SR c F O' ρ w σ H where
  len := S.len
  base := S.base
  new := fun b m n => S.new b ((h b).mpr m) n
  sub := fun b m => (h b).mp (S.sub b m)
  drs := S.drs
  trk := fun b m => S.trk b ((h b).mpr m)
  draw := S.draw
  val := fun i d q => by rw [← vis_congr h]; exact S.val i d q
  own := fun i d q => by
    rw [← vis_congr h]
    obtain ⟨b, o, h1, h2, h3⟩ := S.own i d q
    exact ⟨b, o, h1, (h b).mp h2, h3⟩
  uni := S.uni
/-- a hidden thing of no slot is shown -/
theorem SR.show (S : SR c F O ρ w σ H) (h0 : a ∉ F.O0) (nu : ∀ (j : Nat) e, ρ[j]? = some (some (Slot.own e)) → σ[j]? ≠ some (some (V.ref a))) : SR c F (O.filter fun b => decide (b ≠ a)) ρ w σ H ∧ Ex (vis O H) (vis (O.filter fun b => decide (b ≠ a)) H) := by
  have sub : ∀ b, b ∈ O.filter (fun b => decide (b ≠ a)) ↔ b ∈ O ∧ b ≠ a := fun b => by simp [List.mem_filter]
  have k : Ex (vis O H) (vis (O.filter (fun b => decide (b ≠ a))) H) := vis_sub fun b hb => ((sub b).mp hb).1
  refine ⟨⟨S.len, S.base, fun b hb => S.new b ((sub b).mp hb).1, fun b hb => (sub b).mpr ⟨S.sub b hb, fun z => h0 (z ▸ hb)⟩, S.drs, fun b hb => S.trk b ((sub b).mp hb).1, S.draw, fun j e q => ?_, fun j e q => ?_, S.uni⟩, k⟩
  · obtain ⟨v, q1, q2⟩ := S.val j e q
    exact ⟨v, q1, q2.mono k⟩
  · obtain ⟨b, u, q1, q2, q3, q4, q5⟩ := S.own j e q
    refine ⟨b, u, q1, (sub b).mpr ⟨q2, fun z => ?_⟩, q3, q4, q5.mono k⟩
    rw [z] at q1
    exact nu j e q q1
theorem tabs_upd {T : List (Addr × Str)} {H : Hp} {a : Addr} {o0 o : HO} (t : LamX.Tabs T H) (na : ∀ p ∈ T, p.1 ≠ a) (e0 : H a = some o0) (nx : ∀ φ, o0 ≠ .ext φ) : LamX.Tabs T (upd H a o) := fun p hp => by
  obtain ⟨ps, h1, h2, h3⟩ := t p hp
  refine ⟨ps, by rw [upd_ne (na p hp)]; exact h1, h2, fun pos cv hc => ?_⟩
  obtain ⟨c, e1, e2⟩ := h3 pos cv hc
  refine ⟨c, e1, ?_⟩
  rw [upd_ne fun z => ?_]
  · exact e2
  · rw [z, e0] at e2
    exact nx _ (Option.some.inj e2)
/-- a hidden thing of no slot is changed -/
theorem SR.poke {o0 : HO} (S : SR c F O ρ w σ H) (e0 : H a = some o0) (nx : ∀ φ, o0 ≠ .ext φ) (hO : a ∈ O) (h0 : a ∉ F.O0) (nu : ∀ (j : Nat) e, ρ[j]? = some (some (Slot.own e)) → σ[j]? ≠ some (some (V.ref a))) (o : HO) (nt : NT o := by intro _ z; cases z) : SR c F O ρ w σ (upd H a o) where
  len := S.len
  base := fun b u h n => by
    rw [upd_ne fun z => ?_]
    · exact S.base b u h n
    · rw [z, S.new a hO h0] at h
      cases h
  new := S.new
  sub := S.sub
  drs := S.drs
  trk := fun b h => by
    by_cases z : b = a
    · rw [z]
      exact ⟨o, upd_same, nt⟩
    · rw [upd_ne z]
      exact S.trk b h
  draw := by
    have nd : ∀ b ∈ F.dr.as, b ≠ a := fun b hb z => h0 (z ▸ S.drs b hb)
    exact ⟨fun t q => let ⟨q1, q2, q3, q4⟩ := S.draw.1 t q; ⟨by rw [upd_ne (nd _ (Dr.mem1 q))]; exact q1, by rw [upd_ne (nd _ (Dr.mem2 q))]; exact q2, by rw [upd_ne (nd _ (Dr.mem3 q))]; exact q3, q4⟩, tabs_upd S.draw.2 (fun p hp => nd p.1 (Dr.tab hp)) e0 nx⟩
  val := fun i d q => by
    rw [vis_upd hO]
    exact S.val i d q
  own := fun i d q => by
    rw [vis_upd hO]
    obtain ⟨b, u, q1, q2, q3, q4, q5⟩ := S.own i d q
    refine ⟨b, u, q1, q2, q3, ?_, q5⟩
    rw [upd_ne fun z => ?_]
    · exact q4
    · rw [z] at q1
      exact nu i d q q1
  uni := S.uni
theorem SR.setNone (S : SR c F O ρ w σ H) (i : Nat) : SR c F O (ρ.set i none) w (σ.set i none) H where
  len := by rw [List.length_set, List.length_set]; exact S.len
  base := S.base
  new := S.new
  sub := S.sub
  drs := S.drs
  trk := S.trk
  draw := S.draw
  val := fun j e h => by
    rcases getElem?_set_some h with ⟨rfl, z⟩ | ⟨n, h⟩
    · cases z
    · obtain ⟨u, h1, h2⟩ := S.val j e h
      exact ⟨u, by rw [List.getElem?_set_ne n]; exact h1, h2⟩
  own := fun j e h => by
    rcases getElem?_set_some h with ⟨rfl, z⟩ | ⟨n, h⟩
    · cases z
    · obtain ⟨a, o, h1, h2⟩ := S.own j e h
      exact ⟨a, o, by rw [List.getElem?_set_ne n]; exact h1, h2⟩
  uni := fun j j' e e' a h h' q q' => by
    rcases getElem?_set_some h with ⟨rfl, z⟩ | ⟨n, h⟩
    · cases z
    · rcases getElem?_set_some h' with ⟨rfl, z⟩ | ⟨n', h'⟩
      · cases z
      · rw [List.getElem?_set_ne n] at q
        rw [List.getElem?_set_ne n'] at q'
        exact S.uni j j' e e' a h h' q q'
def wipeE (ρ : Env) : List Nat → Env
  | [] => ρ
  | v :: vs => (wipeE ρ vs).set v none
theorem SR.wipe (S : SR c F O ρ w σ H) : ∀ vs : List Nat, SR c F O (wipeE ρ vs) w (L2.wipe σ vs) H
  | [] => S
  | v :: vs => (SR.wipe S vs).setNone v
/-- no slot of these is an own one -/
def noOwn (ρ : Env) (vs : List Nat) : Bool := vs.all fun i => match ρ[i]? with
  | some (some (.own _)) => false
  | _ => true
def restE (ρ0 ρ : Env) : List Nat → Env
  | [] => ρ
  | v :: vs => (restE ρ0 ρ vs).set v (ρ0[v]?.getD none)
theorem restE_len (ρ0 ρ : Env) : ∀ vs : List Nat, (restE ρ0 ρ vs).length = ρ.length
  | [] => rfl
  | v :: vs => by unfold restE; rw [List.length_set, restE_len ρ0 ρ vs]
theorem restE_get {ρ0 ρ : Env} {i : Nat} {s : Option Slot} : ∀ {vs : List Nat}, (restE ρ0 ρ vs)[i]? = some s → (i ∈ vs ∧ s = ρ0[i]?.getD none) ∨ (i ∉ vs ∧ ρ[i]? = some s)
  | [], h => .inr ⟨by simp, h⟩
  | v :: vs, h => by
    unfold restE at h
    rcases getElem?_set_some h with ⟨rfl, z⟩ | ⟨n, h⟩
    · exact .inl ⟨List.mem_cons_self, z.symm⟩
    · rcases restE_get h with ⟨m, z⟩ | ⟨m, z⟩
      · exact .inl ⟨List.mem_cons_of_mem _ m, z⟩
      · refine .inr ⟨fun y => ?_, z⟩
        rcases List.mem_cons.mp y with y | y
        · exact n y.symm
        · exact m y
theorem SR.rest {ρ2 : Env} {w2 : W} {O2 : List Addr} {H2 : Hp} {vs : List Nat} (S : SR c F O ρ w σ H) (no : noOwn ρ vs = true) (S2 : SR c F O2 ρ2 w2 (L2.wipe σ vs) H2) (x : Ex (vis O H) (vis O2 H2)) : SR c F O2 (restE ρ ρ2 vs) w2 σ H2 := by
  have nv : ∀ i ∈ vs, ∀ d, ρ[i]? ≠ some (some (Slot.own d)) := fun i hi d q => by
    have z := List.all_eq_true.mp no i hi
    rw [q] at z
    cases z
  have own' : ∀ {i : Nat} {d : D}, (restE ρ ρ2 vs)[i]? = some (some (Slot.own d)) → i ∉ vs ∧ ρ2[i]? = some (some (Slot.own d)) := fun {i d} h => by
    rcases restE_get h with ⟨m, z⟩ | h
    · cases q : ρ[i]? with
      | none =>
        rw [q] at z
        cases z
      | some t =>
        rw [q] at z
        have z' : some (Slot.own d) = t := z
        subst z'
        exact absurd q (nv i m d)
    · exact h
  refine ⟨by rw [restE_len, S2.len, wipe_length], S2.base, S2.new, S2.sub, S2.drs, S2.trk, S2.draw, fun i d h => ?_, fun i d h => ?_, fun i j d d' b h h' q q' => ?_⟩
  · rcases restE_get h with ⟨m, z⟩ | ⟨m, h⟩
    · cases q : ρ[i]? with
      | none =>
        rw [q] at z
        cases z
      | some t =>
        rw [q] at z
        have z' : some (Slot.val d) = t := z
        subst z'
        obtain ⟨v, h1, h2⟩ := S.val i d q
        exact ⟨v, h1, h2.mono x⟩
    · obtain ⟨v, h1, h2⟩ := S2.val i d h
      exact ⟨v, by rw [wipe_out m] at h1; exact h1, h2⟩
  · obtain ⟨m, h⟩ := own' h
    obtain ⟨b, o, h1, h2⟩ := S2.own i d h
    exact ⟨b, o, by rw [wipe_out m] at h1; exact h1, h2⟩
  · obtain ⟨m, h⟩ := own' h
    obtain ⟨m', h'⟩ := own' h'
    exact S2.uni i j d d' b h h' (by rw [wipe_out m]; exact q) (by rw [wipe_out m']; exact q')
end

/-- a comprehension's tests -/
def FTs (X : Cx) (ifs : List Expr) (t : M Bool) : Prop := ∀ F, PTs X ifs (tT (ct X) F t)
theorem PTs.wk {X : Cx} {e : List Expr} {t t' : TT} (h : PTs X e t) (k : ∀ σ H Q, t' σ H Q → t σ H Q) : PTs X e t' := ⟨fun pins s σ H Q I q => h.run pins s σ H Q I (k σ H Q q)⟩
theorem fts_nil {X : Cx} : FTs X [] (pureM true) := fun F => PTs.wk pts_nil fun σ H Q q => by
  obtain ⟨O, ρ, w, r, ρ', w', S, e, k⟩ := q
  cases e
  exact k O H S (Ex.refl _)
theorem fts_one {X : Cx} {e : Expr} {t : M Bool} (h : FT X e t) : FTs X [e] t := fun F => pts_one (h F)
/-- whatever the frame -/
def eE (c : Ct) (f : M RV) : TE := fun σ H Q => ∃ F, tE c F f σ H Q
def eT (c : Ct) (f : M Bool) : TT := fun σ H Q => ∃ F, tT c F f σ H Q
def eG (c : Ct) (js : List Nat) (g : D → M Unit) : TG := fun v σ H Q => ∃ F, tG c F js g v σ H Q
def eI (c : Ct) (f : M (List D)) : TI := fun σ H R => ∃ F, tI c F f σ H R
theorem FE.any {X : Cx} {e : Expr} {f : M RV} (h : FE X e f) : PE X e (eE (ct X) f) := ⟨fun pins s σ H Q I ⟨F, q⟩ => (h F).run pins s σ H Q I q⟩
theorem FTs.any {X : Cx} {e : List Expr} {f : M Bool} (h : FTs X e f) : PTs X e (eT (ct X) f) := ⟨fun pins s σ H Q I ⟨F, q⟩ => (h F).run pins s σ H Q I q⟩
theorem FG.any {X : Cx} {e : Expr} {js : List Nat} {g : D → M Unit} (h : FG X e js g) : PG X e (eG (ct X) js g) := ⟨fun pins s σ H v u Q I r ⟨F, q⟩ => (h F).run pins s σ H v u Q I r q⟩
theorem FI.any {X : Cx} {t e : Expr} {f : M (List D)} (h : FI X t e f) : PI X t e (eI (ct X) f) := ⟨fun pins s σ H Q I ⟨F, q⟩ => (h F).run pins s σ H Q I q⟩

/-! ### [elt for target in iter if ..] -/
def lcTurn (asg : D → M Unit) (test : M Bool) (elt : M RV) (d : D) : M (Option D) := bindM (asg d) fun _ => bindM test fun b => if b then bindM elt fun r => bindM (escR r) fun y => pureM (some y) else pureM none
def wipeM (vs : List Nat) : M Unit := fun ρ w => some ((), wipeE ρ vs, w)
def lcL (vs : List Nat) (asg : D → M Unit) (test : M Bool) (elt : M RV) : List D → M (List D)
  | [] => pureM []
  | d :: ds => bindM (lcTurn asg test elt d) fun y => bindM (wipeM vs) fun _ => bindM (lcL vs asg test elt ds) fun ys => pureM (y.toList ++ ys)
def lcM (fi : M (List D)) (vs : List Nat) (asg : D → M Unit) (test : M Bool) (elt : M RV) : M RV := bindM fi fun ds => fun ρ w =>
  if noOwn ρ vs = true ∧ ds.length ≤ 1000000 then match lcL vs asg test elt ds (wipeE ρ vs) w with
    | some (ys, ρ2, w2) => some (.fr (.lst ys), restE ρ ρ2 vs, w2)
    | none => none
  else none
theorem wipe_same {σ σ' : L2.St} {js vs : List Nat} (hl : σ'.length = σ.length) (h : ∀ j, j ∉ js → σ'[j]? = σ[j]?) (hj : ∀ j ∈ js, j ∈ vs) : L2.wipe σ' vs = L2.wipe σ vs := by
  apply List.ext_getElem?
  intro i
  by_cases m : i ∈ vs
  · have q : ∀ τ : L2.St, (L2.wipe τ vs)[i]? = if i < τ.length then some none else none := by
      intro τ
      clear hj h hl
      induction vs with
      | nil => cases m
      | cons v vs ih =>
        unfold L2.wipe
        by_cases e : v = i
        · subst e
          by_cases l : v < τ.length
          · rw [if_pos l, List.getElem?_set_self (by rw [wipe_length]; exact l)]
          · rw [if_neg l, List.getElem?_eq_none (by rw [List.length_set, wipe_length]; omega)]
        · rw [List.getElem?_set_ne e]
          rcases List.mem_cons.mp m with z | z
          · exact absurd z.symm e
          · exact ih z
    rw [q, q, hl]
  · rw [wipe_out m, wipe_out m]
    exact h i fun z => m (hj i z)
theorem wipe_wipe {σ : L2.St} (vs : List Nat) : L2.wipe (L2.wipe σ vs) vs = L2.wipe σ vs := wipe_same (wipe_length σ vs) (js := vs) (fun j hj => wipe_out hj) fun _ h => h
section
variable {c : Ct} {F : Fm} {σ : L2.St} {H : Hp} {Q : VK}
theorem lc_read {fi : M (List D)} {vs js : List Nat} {g : D → M Unit} {tt : M Bool} {fe : M RV} (hj : ∀ j ∈ js, j ∈ vs) (h : tE c F (lcM fi vs g tt fe) σ H Q) : tLc (eI c fi) (eG c js g) (eT c tt) (eE c fe) vs σ H Q := by
  obtain ⟨O, ρ, w, r, ρ', w', S, e, k⟩ := h
  obtain ⟨ds, ρ1, w1, e1, e2⟩ := bindM_some e
  by_cases hc : noOwn ρ1 vs = true ∧ ds.length ≤ 1000000
  · rw [if_pos hc] at e2
    obtain ⟨no, hl⟩ := hc
    split at e2
    · rename_i ys ρ2 w2 e3
      cases e2
      refine ⟨F, O, ρ, w, ds, ρ1, w1, S, e1, fun J O1 H1 S1 x1 W => ?_⟩
      intro Dl hD
      obtain ⟨S2, n2, k2⟩ := S1.hide hD (Ex.new (o := .lst []) hD) upd_same
      have nF : Dl ∉ F.O0 := fun z => n2 (S1.sub Dl z)
      have nu : ∀ {ρx : Env} {j : Nat} {e : D}, (∀ j e, ρx[j]? = some (some (Slot.own e)) → ∃ (a : Addr) (o : HO), (σ[j]? = some (some (V.ref a)) ∧ a ∈ O1)) → ρx[j]? = some (some (Slot.own e)) → σ[j]? ≠ some (some (V.ref Dl)) := fun hx q z => by
        obtain ⟨a, o, h1, h2⟩ := hx _ _ q
        rw [h1] at z
        cases z
        exact n2 h2
      -- the invariant
      refine ⟨fun i m H' => m = ds.length - i ∧ i ≤ ds.length ∧ ∃ O' ρ' wv acc dacc zs, SR c F O' ρ' wv (L2.wipe σ vs) H' ∧ Dl ∈ O' ∧ (∀ (j : Nat) e, ρ'[j]? = some (some (Slot.own e)) → (L2.wipe σ vs)[j]? ≠ some (some (V.ref Dl))) ∧ H' Dl = some (.lst acc) ∧ acc.length ≤ i ∧ RepAll c F.dr.da (vis O' H') acc dacc ∧
        Ex (vis O1 H1) (vis O' H') ∧ lcL vs g tt fe (ds.drop i) ρ' wv = some (zs, ρ2, w') ∧ dacc ++ zs = ys, ⟨ds.length, by simp, Nat.zero_le _, Dl :: O1, _, _, [], [], ys, S2.wipe vs, List.mem_cons_self, fun j e q z => ?_, upd_same, Nat.le_refl _, .nil, k2, by simpa using e3, rfl⟩, ?_⟩
      · obtain ⟨a, o, h1, h2, _⟩ := (S1.wipe vs).own j e q
        rw [h1] at z
        cases z
        exact n2 h2
      rintro i m H' ⟨rfl, hi, O3, ρ3, w3, acc, dacc, zs, S3, m3, u3, q3, l3, r3, x3, e4, ey⟩
      obtain ⟨hgo, hstop⟩ := W i O3 H' x3 S3.trk S3.cel
      by_cases hlt : i < ds.length
      · obtain ⟨go, yld⟩ := hgo ds[i] (by simp [hlt])
        rw [List.drop_eq_getElem_cons hlt] at e4
        obtain ⟨y, ρ4, w4, e5, e6⟩ := bindM_some e4
        obtain ⟨_, ρ5, w5, e7, e8⟩ := bindM_some e6
        obtain ⟨zs', ρ6, w6, e9, e10⟩ := bindM_some e8
        cases e7
        cases e10
        obtain ⟨_, ρ7, w7, e11, e12⟩ := bindM_some e5
        obtain ⟨b, ρ8, w8, e13, e14⟩ := bindM_some e12
        refine .inr ⟨go, fun H9 => ∃ O' ρ' wv acc dacc zs, SR c F O' ρ' wv (L2.wipe σ vs) H9 ∧ Dl ∈ O' ∧ (∀ (j : Nat) e, ρ'[j]? = some (some (Slot.own e)) → (L2.wipe σ vs)[j]? ≠ some (some (V.ref Dl))) ∧ H9 Dl = some (.lst acc) ∧ acc.length ≤ i + 1 ∧ RepAll c F.dr.da (vis O' H9) acc dacc ∧
          Ex (vis O1 H1) (vis O' H9) ∧ lcL vs g tt fe (ds.drop (i + 1)) ρ' wv = some (zs, ρ2, w') ∧ dacc ++ zs = ys, fun H9 n => ⟨ds.length - (i + 1), by omega, rfl, hlt, n⟩, fun x H4 yy => ?_⟩
        obtain ⟨x4, r4⟩ := yld x H4 yy
        have S4 := S3.grow x4
        have q4 := x4 _ _ q3
        have S5 : SR c (F.and Dl (.lst acc)) O3 ρ3 w3 (L2.wipe σ vs) H4 := ((S4.congr (O' := Dl :: O3) fun b => ⟨fun z => List.mem_cons_of_mem _ z, fun z => (List.mem_cons.mp z).elim (fun y => y ▸ m3) id⟩).in nF u3 q4).congr fun b => ⟨fun z => (List.mem_cons.mp z).elim (fun y => y ▸ m3) id, fun z => List.mem_cons_of_mem _ z⟩
        refine ⟨F.and Dl (.lst acc), O3, ρ3, w3, ds[i], ρ7, w7, S5, r4, e11, fun σ2 O5 S6 x6 hl6 hk6 => ?_⟩
        have ws : L2.wipe σ2 vs = L2.wipe σ vs := (wipe_same hl6 hk6 hj).trans (wipe_wipe vs)
        refine ⟨ws, F.and Dl (.lst acc), O5, ρ7, w7, b, ρ8, w8, S6, e13, fun O7 H7 S7 x7 => ?_⟩
        have x8 : Ex (vis O3 H') (vis O7 H7) := ((vis_mono x4).trans x6).trans x7
        cases b with
        | false =>
          cases e14
          obtain ⟨S8, q8, m8, u8⟩ := S7.out nF (S1.hide hD (Ex.new (o := .lst []) hD) upd_same |>.1.new Dl List.mem_cons_self nF) S1.drs
          have S9 := S8.wipe vs
          rw [ws] at S9
          exact ⟨O7, _, _, acc, dacc, zs', S9, m8, fun j e q z => by
            obtain ⟨a, o, h1, h2, h3, _⟩ := (S7.wipe vs).own j e q
            rw [ws] at h1
            rw [h1] at z
            cases z
            exact h3 List.mem_cons_self, q8, Nat.le_succ_of_le l3, r3.mono x8, x3.trans x8, e9, by simpa using ey⟩
        | true =>
          obtain ⟨r, ρ9, w9, e15, e16⟩ := bindM_some e14
          obtain ⟨yd, ρa, wa, e17, e18⟩ := bindM_some e16
          cases e18
          refine ⟨F.and Dl (.lst acc), O7, ρ8, w8, r, ρ9, w9, S7, e15, fun v O9 H9 S9 x9 R9 => ?_⟩
          obtain ⟨rfl, Oa, Sa, xa, ra⟩ := escR_ok S9 R9.hold e17
          obtain ⟨Sb, qb, mb, ub⟩ := Sa.out nF (S1.hide hD (Ex.new (o := .lst []) hD) upd_same |>.1.new Dl List.mem_cons_self nF) S1.drs
          have xb : Ex (vis O3 H') (vis Oa H9) := (x8.trans x9).trans xa
          refine ⟨acc, qb, Nat.lt_of_le_of_lt (Nat.le_trans l3 (Nat.le_trans hi hl)) (by decide), ?_⟩
          have Sc := (Sb.poke qb (fun _ z => nomatch z) mb nF ub (.lst (acc ++ [v]))).wipe vs
          rw [ws] at Sc
          refine ⟨Oa, _, _, acc ++ [v], dacc ++ [yd], zs', Sc, mb, fun j e q z => ?_, upd_same, by simp; omega, ?_, ?_, e9, by rw [List.append_assoc]; exact ey⟩
          · obtain ⟨a, o, h1, h2, h3, _⟩ := (Sa.wipe vs).own j e q
            rw [ws] at h1
            rw [h1] at z
            cases z
            exact h3 List.mem_cons_self
          · rw [vis_upd mb]
            exact (r3.mono xb).snoc ra
          · rw [vis_upd mb]
            exact x3.trans xb
      · have ei : i = ds.length := by omega
        subst ei
        rw [List.drop_length] at e4
        cases e4
        refine .inl ⟨hstop rfl, ?_⟩
        rw [List.append_nil] at ey
        subst ey
        have Sr := S1.rest no S3 x3
        have ur : ∀ (j : Nat) e, (restE ρ1 ρ2 vs)[j]? = some (some (Slot.own e)) → σ[j]? ≠ some (some (V.ref Dl)) := fun j e q z => by
          rcases restE_get q with ⟨m, y⟩ | ⟨m, y⟩
          · cases hq : ρ1[j]? with
            | none =>
              rw [hq] at y
              cases y
            | some t =>
              rw [hq] at y
              have y' : some (Slot.own e) = t := y
              subst y'
              have z := List.all_eq_true.mp no j m
              rw [hq] at z
              cases z
          · have z' := u3 j e y
            rw [wipe_out m] at z'
            exact z' z
        obtain ⟨Ss, xs⟩ := Sr.show nF ur
        have eqO : ∀ b, b ∈ O3 ↔ b ∈ Dl :: (O3.filter fun b => decide (b ≠ Dl)) := fun b => by
          simp only [List.mem_cons, List.mem_filter, decide_eq_true_eq]
          constructor
          · intro z
            by_cases y : b = Dl
            · exact .inl y
            · exact .inr ⟨z, y⟩
          · rintro (z | z)
            · rw [z]; exact m3
            · exact z.1
        refine k (.ref Dl) (O3.filter fun b => decide (b ≠ Dl)) H' Ss (x1.trans (x3.trans xs)) ⟨Dl, .lst acc, rfl, by simp, Sr.congr eqO, q3, .inl ⟨acc, dacc, rfl, rfl, ?_⟩, ?_⟩
        · rw [← vis_congr eqO]
          exact r3
        · rw [← vis_congr eqO]
          exact x1.trans x3
    · cases e2
  · rw [if_neg hc] at e2
    cases e2
end
section
variable {X : Cx} {elt tg iter : Expr} {ifs : List Expr} {scope : Scope} {own : List (Str × Nat)} {pos spos py : Pos} {fi : M (List D)} {js : List Nat} {g : D → M Unit} {tt : M Bool} {fe : M RV} {i : Nat} {y : Str}
theorem fe_lc (hc : X.calm = true) (hN : X.N.Nodup) (hi : FI X tg iter fi) (ok : BlkOk X.N X.env.scope scope own)
    (hg : ∀ (s : Shared) (H : Hp) (C : Addr) (cl : List (Str × Addr)) (fp : List Addr), FG (X.blk s H scope (compEnvC scope cl C X.env) fp) tg js g) (ht : ∀ (s : Shared) (H : Hp) (C : Addr) (cl : List (Str × Addr)) (fp : List Addr), FTs (X.blk s H scope (compEnvC scope cl C X.env) fp) ifs tt)
    (he : ∀ (s : Shared) (H : Hp) (C : Addr) (cl : List (Str × Addr)) (fp : List Addr), FE (X.blk s H scope (compEnvC scope cl C X.env) fp) elt fe) (hj : ∀ j ∈ js, j ∈ own.map (·.2) := by decide) (hs : ∀ x, foldedSetIterable iter X.env x = pure x := by intro _; rfl) :
    FE X (.ListComp elt [⟨tg, iter, ifs, 0⟩] scope pos) (lcM fi (own.map (·.2)) g tt fe) := fun F =>
  PE.wk (pe_lc hc hN hi.any ok (fun s H C cl fp => (hg s H C cl fp).any) (fun s H C cl fp => (ht s H C cl fp).any) (fun s H C cl fp => (he s H C cl fp).any) hs) fun σ H Q q => lc_read hj q
theorem fs_setLc (hc : X.calm = true) (hN : X.N.Nodup) (hy : X.N[i]? = some y) (hyl : X.env.scope.names.lookup y = some .local)
    (hsw : swapsWith (.ListComp elt [⟨tg, iter, ifs, 0⟩] scope pos) (some (.Name y py)) spos.line X.env = pure true) (hi : FI X tg iter fi) (ok : BlkOk X.N X.env.scope scope own)
    (hg : ∀ (s : Shared) (H : Hp) (C : Addr) (cl : List (Str × Addr)) (fp : List Addr), FG (X.blk s H scope (compEnvC scope cl C X.env) fp) tg js g) (ht : ∀ (s : Shared) (H : Hp) (C : Addr) (cl : List (Str × Addr)) (fp : List Addr), FTs (X.blk s H scope (compEnvC scope cl C X.env) fp) ifs tt)
    (he : ∀ (s : Shared) (H : Hp) (C : Addr) (cl : List (Str × Addr)) (fp : List Addr), FE (X.blk s H scope (compEnvC scope cl C X.env) fp) elt fe) (hj : ∀ j ∈ js, j ∈ own.map (·.2) := by decide) (hs : ∀ x, foldedSetIterable iter X.env x = pure x := by intro _; rfl) :
    FS X (.Assign [.Name y py] (.ListComp elt [⟨tg, iter, ifs, 0⟩] scope pos) spos) (bindM (lcM fi (own.map (·.2)) g tt fe) fun r => nxM (asgM i r)) := fun F =>
  PS.wk (ps_setLc hc hN hy hyl hsw hi.any ok (fun s H C cl fp => (hg s H C cl fp).any) (fun s H C cl fp => (ht s H C cl fp).any) (fun s H C cl fp => (he s H C cl fp).any) hs) fun E σ H q => by
    obtain ⟨O, ρ, w, fl, ρ', w', S, e, k⟩ := q
    refine lc_read (F := F) hj (tE_then S e fun v O1 ρ1 w1 H1 r1 S1 e1 R1 h1 => ?_)
    obtain ⟨_, ρ2, w2, h2, h3⟩ := bindM_some h1
    obtain ⟨rfl, O2, S2, x2⟩ := asg_ok S1 e1 R1 h2
    cases h3
    exact k _ O2 H1 S2 x2
end
end FD

end sec_FD6
section sec_FD7
set_option maxRecDepth 100000
set_option maxHeartbeats 5000000
/-! FD7: a def by its body; __init__ and C(..); stores into what a slot owns. -/
namespace FD
open PySem L2
variable [Tabl]
open PyProof.Rows (envOfC)

/-! ### a def -/
def startE (n : Nat) (ds : List D) : Env := ds.map (fun d => some (Slot.val d)) ++ List.replicate (n - ds.length) none
def outR (ρ : Env) : RV → Option RV
  | .ow i => match ρ[i]? with
    | some (some (.own d)) => some (.fr d)
    | some (some (.val d)) => some (.sh d)
    | _ => none
  | r => some r
def endB : Option (Fl × Env × W) → Option (RV × W)
  | some (.ret r, ρ, w) => (outR ρ r).map fun r' => (r', w)
  | some (.nx, _, w) => some (.sh .non, w)
  | _ => none
def denB (n : Nat) (body : M Fl) : List D → W → Option (RV × W) := fun ds w => endB (body (startE n ds) w)
theorem startE_own {n : Nat} {ds : List D} {i : Nat} {d : D} (h : (startE n ds)[i]? = some (some (Slot.own d))) : False := by
  unfold startE at h
  rw [List.getElem?_append] at h
  split at h
  · rw [List.getElem?_map] at h
    cases q : ds[i]? with
    | none =>
      rw [q] at h
      cases h
    | some e =>
      rw [q] at h
      cases h
  · rw [List.getElem?_replicate] at h
    split at h
    · cases h
    · cases h
theorem startE_val {n : Nat} {ds : List D} {i : Nat} {d : D} (h : (startE n ds)[i]? = some (some (Slot.val d))) : ds[i]? = some d := by
  unfold startE at h
  rw [List.getElem?_append] at h
  split at h
  · rw [List.getElem?_map] at h
    cases q : ds[i]? with
    | none =>
      rw [q] at h
      cases h
    | some e =>
      rw [q] at h
      cases h
      rfl
  · rw [List.getElem?_replicate] at h
    split at h
    · cases h
    · cases h
theorem start_get {N : List Str} {vs : List V} {i : Nat} {v : V} (h : vs[i]? = some v) : (L2.start N vs)[i]? = some (some v) := by
  unfold L2.start
  rw [List.getElem?_append_left (by rw [List.length_map]; exact (List.getElem?_eq_some_iff.mp h).1), List.getElem?_map, h]
  rfl
section
variable {c : Ct} {F : Fm} {G : Hp} {O : List Addr} {ρ : Env} {w w' : W} {σ : L2.St} {H : Hp} {r r' : RV} {v : V}
theorem outR_ok (S : SR c F O ρ w σ H) (R : RepR c F G O ρ w σ H r v) (e : outR ρ r = some r') : RepN c F.dr.da F.O0 F.H0 H r' v := by
  cases r with
  | sh d =>
    cases e
    exact Rep.mono (vis_sub S.sub) R
  | fr d =>
    cases e
    obtain ⟨a, o, rfl, n, S1, q, ob, x1⟩ := R
    have nF : a ∉ F.O0 := fun z => n (S.sub a z)
    refine ⟨a, o, rfl, S1.new a List.mem_cons_self nF, q, ob.mono (vis_sub fun b hb => ?_)⟩
    rcases List.mem_cons.mp hb with z | z
    · rw [z]
      exact List.mem_cons_self
    · exact List.mem_cons_of_mem _ (S.sub b z)
  | ow i =>
    obtain ⟨h1, d, h2⟩ := R
    unfold outR at e
    dsimp only at e
    rw [h2] at e
    cases e
    obtain ⟨a, o, q1, q2, q3, q4, q5⟩ := S.own i d h2
    rw [h1] at q1
    cases q1
    refine ⟨a, o, rfl, S.new a q2 q3, q4, q5.mono (vis_sub fun b hb => ?_)⟩
    rcases List.mem_cons.mp hb with z | z
    · rw [z]
      exact q2
    · exact S.sub b z
end
section
variable {P : Program} {w : World} {K : PySem.W.Frag} {mg : Str → Option Value} {base : Heap}
theorem start_sr {dr : Dr} {O0 : List Addr} {wd : W} {N : List Str} {vs : List V} {ds : List D} {H : Hp} (h1 : ∀ a ∈ dr.as, a ∈ O0) (h2 : ∀ a ∈ O0, ∃ o, H a = some o ∧ NT o) (h3 : DrawAt dr wd H) (h4 : RepAll ⟨K, mg⟩ dr.da (vis O0 H) vs ds) : SR ⟨K, mg⟩ ⟨dr, O0, H⟩ O0 (startE N.length ds) wd (L2.start N vs) H where
  len := by unfold startE L2.start; simp [h4.length]
  base := fun _ _ h _ => h
  new := fun a h n => absurd h n
  sub := fun _ h => h
  drs := h1
  trk := h2
  draw := h3
  val := fun i d h => by
    obtain ⟨v, q1, q2⟩ := h4.get (startE_val h)
    exact ⟨v, start_get q1, q2⟩
  own := fun i d h => (startE_own h).elim
  uni := fun i j d d' a h => (startE_own h).elim
theorem def_ok {x qual : Str} {st : Stmt} {f : Addr} {fd : FuncData} {N ps : List Str} {k : Nat} {fb : M Fl} (F : Fun K x qual st f fd) (S : FnScope N ps (defScope st))
    (hb : ∀ (cdv : Value) (A : Around) (outer : List PySem.Env) (s : Shared) (H : Hp) (E : XK), Room k (A.deeper (envOfC qual (defScope st) s.heap.objs.size f cdv)) → FSs (cxOf CX0 P w K mg base N qual (defScope st) f cdv A outer s H E).nox (defBody st) fb) :
    FnOk P w K mg base CX0 (k + 1) f fd ps (spD ⟨K, mg⟩ ps.length (denB N.length fb)) := by
  obtain ⟨oc, od, kV, doc, pm, an, cdv, ctt, osl, rfl, lk, hcd⟩ := F.ex
  refine fn_of lk hcd S (fun _ _ _ _ h => ?_) fun A outer s H vs Q E hr h => ?_
  · obtain ⟨dr, O0, wd, ds, r, w', _, _, _, h4, h5, _⟩ := h
    rw [h4.length, h5]
  · obtain ⟨dr, O0, wd, ds, r, w', h1, h2, h3, h4, h5, h6, k6⟩ := h
    refine ⟨_, PSs.nox (hb cdv A outer s H E hr ⟨dr, O0, H⟩), ?_⟩
    unfold denB at h6
    cases e : fb (startE N.length ds) wd with
    | none =>
      rw [e] at h6
      cases h6
    | some z =>
      obtain ⟨fl, ρ', w2⟩ := z
      rw [e] at h6
      refine ⟨O0, _, wd, fl, ρ', w2, start_sr h1 h2 h3 h4, e, ?_⟩
      cases fl with
      | nx =>
        cases h6
        intro σ O H' S' _
        exact k6 .non H' (fun a o q n => S'.base a o q n) S'.draw .non
      | ret r1 =>
        intro v σ O H' S' R'
        have h6 : (outR ρ' r1).map (fun r' => (r', w2)) = some (r, w') := h6
        cases q : outR ρ' r1 with
        | none =>
          rw [q] at h6
          cases h6
        | some r2 =>
          rw [q] at h6
          cases h6
          exact k6 v H' (fun a o q n => S'.base a o q n) S'.draw (outR_ok S' R' q)
      | bk => cases h6
      | ct => cases h6
theorem def_okD {x qual : Str} {params : Arguments} {body : List Stmt} {scope : Scope} {dvs : List V} {kws : List (Str × V)} {f : Addr} {fd : FuncData} {N ps : List Str} {k : Nat} {fb : M Fl} (F : FunD K x qual params body scope dvs kws f fd) (S : FnScope N ps scope)
    (hb : ∀ (cdv : Value) (A : Around) (outer : List PySem.Env) (s : Shared) (H : Hp) (E : XK), Room k (A.deeper (envOfC qual scope s.heap.objs.size f cdv)) → FSs (cxOf CX0 P w K mg base N qual scope f cdv A outer s H E).nox body fb) :
    FnOk P w K mg base CX0 (k + 1) f fd ps (spD ⟨K, mg⟩ ps.length (denB N.length fb)) := by
  obtain ⟨oc, od, dV, kV, doc, pm, an, cdv, ctt, osl, rfl, lk, hcd, _, _⟩ := F.ex
  refine fn_of lk hcd S (fun _ _ _ _ h => ?_) fun A outer s H vs Q E hr h => ?_
  · obtain ⟨dr, O0, wd, ds, r, w', _, _, _, h4, h5, _⟩ := h
    rw [h4.length, h5]
  · obtain ⟨dr, O0, wd, ds, r, w', h1, h2, h3, h4, h5, h6, k6⟩ := h
    refine ⟨_, PSs.nox (hb cdv A outer s H E hr ⟨dr, O0, H⟩), ?_⟩
    unfold denB at h6
    cases e : fb (startE N.length ds) wd with
    | none =>
      rw [e] at h6
      cases h6
    | some z =>
      obtain ⟨fl, ρ', w2⟩ := z
      rw [e] at h6
      refine ⟨O0, _, wd, fl, ρ', w2, start_sr h1 h2 h3 h4, e, ?_⟩
      cases fl with
      | nx =>
        cases h6
        intro σ O H' S' _
        exact k6 .non H' (fun a o q n => S'.base a o q n) S'.draw .non
      | ret r1 =>
        intro v σ O H' S' R'
        have h6 : (outR ρ' r1).map (fun r' => (r', w2)) = some (r, w') := h6
        cases q : outR ρ' r1 with
        | none =>
          rw [q] at h6
          cases h6
        | some r2 =>
          rw [q] at h6
          cases h6
          exact k6 v H' (fun a o q n => S'.base a o q n) S'.draw (outR_ok S' R' q)
      | bk => cases h6
      | ct => cases h6
end


/-! ### __init__ and C(..): the new object stands at a, hidden, of no slot; gs its attributes -/
theorem RepF.length {c : Ct} {da : Option Addr} {G : Hp} : ∀ {fs : List (Str × V)} {gs : List (Str × D)}, RepF c da G fs gs → fs.length = gs.length
  | _, _, .nil => rfl
  | _, _, .cons _ r => by simp [RepF.length r]
def NoSlot (ρ : Env) (σ : L2.St) (a : Addr) : Prop := ∀ (j : Nat) e, ρ[j]? = some (some (Slot.own e)) → σ[j]? ≠ some (some (V.ref a))
section
variable {X : Cx} {cn f x : Str} {e : Expr} {sts : List Stmt} {g : MJ} {fe : M RV} {pos pos' p : Pos}
theorem hide_in {c : Ct} {F : Fm} {O : List Addr} {ρ : Env} {w : W} {σ : L2.St} {H : Hp} {a : Addr} {o : HO} (S : SR c F O ρ w σ H) (hO : a ∈ O) (hF : a ∉ F.O0) (nu : NoSlot ρ σ a) (q : H a = some o) : SR c (F.and a o) O ρ w σ H :=
  ((S.congr (O' := a :: O) fun b => ⟨fun z => List.mem_cons_of_mem _ z, fun z => (List.mem_cons.mp z).elim (fun y => y ▸ hO) id⟩).in hF nu q).congr fun b => ⟨fun z => (List.mem_cons.mp z).elim (fun y => y ▸ hO) id, fun z => List.mem_cons_of_mem _ z⟩
end
def spI (c : Ct) (n : Nat) (cn : Str) (den : List D → W → Option (List (Str × D) × W)) : Sp := fun vs H Q _ => ∃ a C dx vs' dr O0 w ds gs w', vs = .ref a :: vs' ∧ c.mg cn = some (.ref C) ∧ H a = some (.ins C dx []) ∧ a ∉ O0 ∧ (∀ b ∈ dr.as, b ∈ O0) ∧ (∀ b ∈ O0, ∃ o, H b = some o ∧ NT o) ∧ DrawAt dr w H ∧
  RepAll c dr.da (vis (a :: O0) H) vs' ds ∧ ds.length + 1 = n ∧ den ds w = some (gs, w') ∧
  ∀ H' dx' fs, (∀ b o, H b = some o → b ≠ a → b ∉ dr.as → H' b = some o) → DrawAt dr w' H' → H' a = some (.ins C dx' fs) → RepF c dr.da (vis (a :: O0) H') fs gs → Q .non H'
section
variable {P : Program} {w : World} {K : PySem.W.Frag} {mg : Str → Option Value} {base : Heap}
end
end FD

end sec_FD7
section sec_ST1
set_option maxRecDepth 100000
set_option maxHeartbeats 5000000
/-! ST1: set(text). The library adds a text that is new to a set (Froz.add_x); here also one that is there, and the walk over a text's signs. -/
namespace ST
open PySem PySem.Spec PyProof.Rows L2
open PySem.Froz (SD sObj TxOk addTx tailTx add_x add_ok)
def nameOf : Value → Str
  | .str k _ => k
  | _ => Str.empty
def names (l : List (Int × Value)) : List Str := l.map fun e => nameOf e.2
/-- the payload D of a set holds the texts l, each once, and can be walked -/
structure Holds (P : Program) (w : World) (D : SD) (l : List Str) : Prop where
  tx : TxOk P w D l
  str : ∀ e ∈ D.1.toList, ∃ k u, e.2 = Value.str k u
  perm : (names D.1.toList).Perm l
  ris : Ris D.2.2.place.toList
  led : w.params.followText "set-order" = true ∨ D.2.2.led = true
section
variable {P : Program} {w : World} {D : SD} {l : List Str} {k : Str} {u : Tok}
theorem Holds.relaid {es : Array (Int × Value)} {ep ep2 n : Nat} {t : SetTable} (h : Holds P w (es, ep, t) l) (tx : TxOk P w ((relayAll t es n).1, ep2, (relayAll t es n).2.1) l) : Holds P w ((relayAll t es n).1, ep2, (relayAll t es n).2.1) l := by
  have pm := relayAll_perm t es n
  refine ⟨tx, fun e he => h.str e (pm.mem_iff.mp he), (pm.map _).trans h.perm, relayAll_ris t es n, ?_⟩
  rcases h.led with z | z
  · exact Or.inl z
  · exact Or.inr ((relayAll_led t es n).trans z)
theorem Holds.laid {es : Array (Int × Value)} {ep : Nat} {t t2 : SetTable} {i : Int} (h : Holds P w (es, ep, t) l) (ep2 : Nat) (same : t2.place = (layNew t es i (.str k u)).2.1.place ∧ t2.led = (layNew t es i (.str k u)).2.1.led) (tx : TxOk P w ((layNew t es i (.str k u)).1, ep2, t2) (k :: l)) :
    Holds P w ((layNew t es i (.str k u)).1, ep2, t2) (k :: l) := by
  have pm := layNew_perm t es i (.str k u)
  rw [Array.toList_push] at pm
  have pc := pm.trans (List.perm_append_singleton _ _)
  refine ⟨tx, fun e he => ?_, (pc.map _).trans (h.perm.cons k), ?_, ?_⟩
  · rcases List.mem_cons.mp (pc.mem_iff.mp he) with rfl | old
    · exact ⟨k, u, rfl⟩
    · exact h.str e old
  · rw [same.1]
    exact layNew_ris t es i _ h.ris
  · rw [same.2, layNew_led]
    exact h.led
theorem Holds.add (h : Holds P w D l) (u : Tok) : Holds P w (addTx (hashStr w k) (.str k u) D) (k :: l) := by
  have tx := add_ok (k := k) u h.tx
  obtain ⟨es, ep, t⟩ := D
  unfold addTx tailTx at tx ⊢
  have keep : ∀ T : SetTable, (if T.plain = true then { T with plain := false } else T).place = T.place ∧ (if T.plain = true then { T with plain := false } else T).led = T.led := fun T => by
    by_cases q : T.plain = true <;> simp [q]
  dsimp only at tx ⊢
  generalize ht : (if (layNew t es (hashStr w k) (.str k u)).2.1.plain = true then { (layNew t es (hashStr w k) (.str k u)).2.1 with plain := false } else (layNew t es (hashStr w k) (.str k u)).2.1) = t2 at tx ⊢
  have same : t2.place = (layNew t es (hashStr w k) (.str k u)).2.1.place ∧ t2.led = (layNew t es (hashStr w k) (.str k u)).2.1.led := by
    rw [← ht]
    exact keep _
  by_cases full : (!(layNew t es (hashStr w k) (.str k u)).2.2.1 && t2.tooFull) = true
  · rw [if_pos full] at tx ⊢
    have txl : TxOk P w ((layNew t es (hashStr w k) (.str k u)).1, ep, t2) (k :: l) := by
      refine ⟨?_, ?_, ?_, ?_⟩
      · exact tx.el.perm (relayAll_perm _ _ _).symm
      · intro j
        rw [tx.mem j]
        constructor
        · rintro ⟨e, he, z⟩
          exact ⟨e, (relayAll_perm _ _ _).mem_iff.mp he, z⟩
        · rintro ⟨e, he, z⟩
          exact ⟨e, (relayAll_perm _ _ _).mem_iff.mpr he, z⟩
      · rw [← tx.sz]
        have := (relayAll_perm t2 (layNew t es (hashStr w k) (.str k u)).1 (SetTable.grown (layNew t es (hashStr w k) (.str k u)).1.size)).length_eq
        simpa using this.symm
      · have f := layNew_fits t es (hashStr w k) (.str k u)
        rw [← ht]
        by_cases q : (layNew t es (hashStr w k) (.str k u)).2.1.plain = true
        · rw [if_pos q]
          exact SetTable.fits_plain_off f
        · rw [if_neg q]
          exact f
    exact (h.laid ep same txl).relaid tx
  · rw [if_neg full] at tx ⊢
    exact h.laid _ same tx
theorem Holds.empty {b : Bool} (hb : w.params.followText "set-order" = true ∨ b = true) : Holds P w (#[], 0, .fresh 0 0 b) [] := by
  refine ⟨.nil rfl, ?_, .nil, .nil, hb⟩
  intro e he
  cases he
/-! ### adding -/
variable {A : Around} {E : Value → Shared → Prop} {s : Shared} {a : Addr}
/-- l with k in it -/
def ins (k : Str) (l : List Str) : List Str := if k ∈ l then l else k :: l
end
/-! ### a text's signs, one after another -/
section
variable {P : Program} {w : World} {A : Around} {R : Result → Shared → Prop} {I a : Addr} {fp wr : List Addr} {G : Array GenState → Array GenState → Prop} {n : Nat} {Pv : Nat → Value → Prop} {St : Nat → Shared → Prop}
end
/-! ### set(text) -/
section
variable {P : Program} {w : World} {A : Around} {E : Value → Shared → Prop} {s : Shared}
end
end ST

end sec_ST1
section sec_ST2
set_option maxRecDepth 100000
set_option maxHeartbeats 5000000
namespace ST
open PySem PySem.Spec PyProof.Rows L2

/-! ### the signs of a text, each once, ascending -/
def insN (c : Nat) : List Nat → List Nat
  | [] => [c]
  | d :: r => if c < d then c :: d :: r else if c = d then d :: r else d :: insN c r
def setN : List Nat → List Nat
  | [] => []
  | c :: r => insN c (setN r)
abbrev Up (l : List Nat) : Prop := l.Pairwise (· < ·)
theorem mem_insN {c x : Nat} : ∀ {l : List Nat}, x ∈ insN c l ↔ x = c ∨ x ∈ l
  | [] => by simp [insN]
  | d :: r => by
    unfold insN
    split
    · simp
    · split
      · rename_i h
        subst h
        simp
      · rw [List.mem_cons, mem_insN, List.mem_cons]
        constructor
        · rintro (h | h | h) <;> simp [h]
        · rintro (h | h | h) <;> simp [h]
theorem up_insN {c : Nat} : ∀ {l : List Nat}, Up l → Up (insN c l)
  | [], _ => by simp [insN]
  | d :: r, h => by
    obtain ⟨above, up⟩ := List.pairwise_cons.mp h
    unfold insN
    split
    · rename_i hc
      refine List.pairwise_cons.mpr ⟨fun x hx => ?_, h⟩
      rcases List.mem_cons.mp hx with rfl | hx
      · exact hc
      · exact Nat.lt_trans hc (above x hx)
    · split
      · exact h
      · refine List.pairwise_cons.mpr ⟨fun x hx => ?_, up_insN up⟩
        rcases mem_insN.mp hx with rfl | hx
        · omega
        · exact above x hx
theorem mem_setN {x : Nat} : ∀ {l : List Nat}, x ∈ setN l ↔ x ∈ l
  | [] => Iff.rfl
  | c :: r => by
    show x ∈ insN c (setN r) ↔ _
    rw [mem_insN, mem_setN, List.mem_cons]
theorem up_setN : ∀ l : List Nat, Up (setN l)
  | [] => List.Pairwise.nil
  | c :: r => up_insN (up_setN r)
theorem up_eq : ∀ {l m : List Nat}, Up l → Up m → (∀ x, x ∈ l ↔ x ∈ m) → l = m
  | [], [], _, _, _ => rfl
  | [], y :: m, _, _, h => by
    have := (h y).mpr List.mem_cons_self
    cases this
  | x :: l, [], _, _, h => by
    have := (h x).mp List.mem_cons_self
    cases this
  | x :: l, y :: m, hl, hm, h => by
    obtain ⟨l1, l2⟩ := List.pairwise_cons.mp hl
    obtain ⟨m1, m2⟩ := List.pairwise_cons.mp hm
    have e : x = y := by
      rcases List.mem_cons.mp ((h x).mp List.mem_cons_self) with z | z
      · exact z
      · rcases List.mem_cons.mp ((h y).mpr List.mem_cons_self) with z' | z'
        · exact z'.symm
        · have a := m1 x z
          have b := l1 y z'
          omega
    subst e
    rw [up_eq l2 m2 fun z => ?_]
    constructor
    · intro hz
      rcases List.mem_cons.mp ((h z).mp (List.mem_cons_of_mem _ hz)) with q | q
      · have := l1 z hz
        omega
      · exact q
    · intro hz
      rcases List.mem_cons.mp ((h z).mpr (List.mem_cons_of_mem _ hz)) with q | q
      · have := m1 z hz
        omega
      · exact q
def sg1 (c : Nat) : Str := ⟨#[c]⟩
/-- the texts of sorted(set(x)) -/
def sset (x : Str) : List Str := (setN x.cps.toList).map sg1
/-! ### sorted(a set of texts) -/
section
variable {P : Program} {w : World} {A : Around} {E : Value → Shared → Prop} {s : Shared} {a : Addr}
/-- what sorted leaves: a new list of the texts ys -/
structure Sorted (s s2 : Shared) (p : Addr) (ys : List Str) : Prop where
  old : ∀ b o, s.heap.get? b = some o → s2.heap.get? b = some o
  gens : s2.gens = s.gens
  os : s2.os = s.os
  new : s.heap.objs.size ≤ p
  lst : ∃ (out : Array Value) (c : Nat), s2.heap.get? p = some (seqObj "list" out c) ∧ StrsAre out.toList ys
  up : sortedS ys = true
end

/-! ### sorted(set(e)) -/
section
variable {X : Cx}
end
end ST

end sec_ST2
section sec_SK1
set_option maxRecDepth 100000
set_option maxHeartbeats 5000000
/-! SK1: sorted(texts, key=lambda one: (len(one), one)), sorted(texts, key=len). A lambda is made (LamX.lam_make2 is the library's; here all but the one table is kept). -/
namespace SK
open PySem PySem.Spec PyProof.Rows L2 LamX

section
variable {H : Hp} {T : List (Addr × Str)} {P c : Addr} {q : Str} {ps more : Array Value}
/-- H with a longer table at P and a code object at c -/
def grown (H : Hp) (P : Addr) (ps : Array Value) (c : Addr) (q : Str) : Hp := upd (upd H P (.tbl ps)) c (CodeO c q)
theorem grown_old {b : Addr} {o : HO} (free : H c = none) (e : H b = some o) (n : b ≠ P) : grown H P ps c q b = some o :=
  (upd_ne (ne_of_none e free)).trans ((upd_ne n).trans e)
theorem grown_code {b : Addr} {r : Str} (tab : H P = some (.tbl ps)) (free : H c = none) (e : H b = some (CodeO b r)) : grown H P (ps ++ more) c q b = some (CodeO b r) := by
  apply grown_old free e
  rintro rfl
  exact codeO_ne ps (Option.some.inj (e.symm.trans tab))
theorem grown_tabs (one : ∀ p ∈ T, p.1 = P → p.2 = q) (tab : H P = some (.tbl ps)) (free : H c = none) (all : Tabs T H) (fit : TriplesOk (ps ++ more).toList) (new : ∀ pos cv, codeAmong pos (ps ++ more).toList = some cv → codeAmong pos ps.toList = some cv ∨ cv = .ref c) :
    Tabs T (grown H P (ps ++ more) c q) := by
  intro p hp
  obtain ⟨qs, t1, t2, t3⟩ := all p hp
  by_cases here : p.1 = P
  · obtain rfl : qs = ps := by
      rw [here, tab] at t1
      injection t1 with t1
      injection t1 with t1
      exact t1.symm
    refine ⟨qs ++ more, ?_, fit, ?_⟩
    · rw [here]
      exact (upd_ne (ne_of_none tab free)).trans upd_same
    · intro pos cv found
      rcases new pos cv found with old | rfl
      · obtain ⟨d, rfl, at_⟩ := t3 pos cv old
        exact ⟨d, rfl, grown_code tab free at_⟩
      · exact ⟨c, rfl, by rw [one p hp here]; exact upd_same⟩
  · refine ⟨qs, grown_old free t1 here, t2, ?_⟩
    intro pos cv found
    obtain ⟨d, rfl, at_⟩ := t3 pos cv found
    exact ⟨d, rfl, grown_code tab free at_⟩
end
section
variable {X : Cx} {pins : List (Addr × Obj)} {σ : L2.St}
/-- the lambda as an object -/
abbrev lamO (X : Cx) (params : Arguments) (body : Expr) (scope : Scope) (pm : Value) (c : Addr) (ctv : Value) : Obj := PySem.W.kla_obj "<lambda>" (X.env.qual ++ "<lambda>") params body scope (cloFrom X.env.cells scope.names []) pm c ctv
theorem lam_make3 {H : Hp} {s : Shared} {T : List (Addr × Str)} {c P : Addr} {params : Arguments} {body : Expr} {scope : Scope} {pos : Pos} {E : Value → Shared → Prop} {Q : Value → Shared → Prop} (I : Inv X pins σ H s) (TB : TabB X.base X.mg c P) (hcode : X.env.code = .ref c)
    (hm : (P, X.env.qual ++ "<lambda>") ∈ T) (one : ∀ p ∈ T, p.1 = P → p.2 = X.env.qual ++ "<lambda>") (all : Tabs T H) (nodef : defaultsOf params X.env = ([], [])) (free : ∀ y ∈ scope.names, y.2 = .free → ∃ c, X.env.cells.lookup y.1 = some c)
    (go : ∀ (f c2 : Addr) (pm ctv : Value) (H1 : Hp) (s1 : Shared), Inv X pins σ H1 s1 → (∀ b o, H b = some o → b ≠ P → H1 b = some o) → Tabs T H1 → s1.heap.get? f = some (lamO X params body scope pm c2 ctv) → H1 f = none → s.heap.objs.size ≤ f → H1 c2 = some (CodeO c2 (X.env.qual ++ "<lambda>")) → Q (.ref f) s1) :
    wpAny (model X.prog X.w) X.A (eval (Expr.Lambda params body scope pos) X.env) Q E s := by
  obtain ⟨ps, tab, fit, known⟩ := all _ hm
  have glob := I.mod.glob.keeps I.bk
  have hd := TB.code.keeps I.bk
  have bm := TB.bm.keeps I.bk
  apply PySem.W.kla_eval nodef
  match found : codeAmong pos ps.toList with
  | some cv =>
    obtain ⟨c2, rfl, at_⟩ := known pos cv found
    apply PySem.W.kla_makeFunctionHit (mg := X.mg) (c := c) (P := P) (ps := ps) (closure_ok free) I.ok.glob glob hcode hd (I.hok P _ tab) fit found bm
    intro ctv h k old big
    exact go h.objs.size c2 _ ctv H _ (I.kept (t' := k) fun b o e => Heap.get?_push_of_some _ (old b o e)) (fun _ _ e _ => e) all (Heap.get?_push_size _ rfl) (I.hok.fresh big) big at_
  | none =>
    apply PySem.W.kla_makeFunction (mg := X.mg) (c := c) (P := P) (ps := ps) (closure_ok free) I.ok.glob glob hcode hd (I.hok P _ tab) fit found TB.gP bm
    intro c2 ctv h k old new big rec_ tab2
    obtain ⟨c3, oc, vs, t, e3, at_, dat, nm⟩ := rec_
    injection e3 with e3
    subst e3
    have none2 := I.hok.fresh new
    have I2 := inv_table (t' := k) (h' := h.push (lamO X params body scope ((X.mg "__name__").getD .none) c2 ctv)) (q := X.env.qual ++ "<lambda>") I tab (fun b o n e => Heap.get?_push_of_some _ (old b o n e)) (Heap.get?_push_of_some _ tab2) new ⟨oc, vs, t, Heap.get?_push_of_some _ at_, dat, nm⟩
    have split : (ps ++ #[rawInt pos.line, rawInt pos.col, .ref c2]).toList = ps.toList ++ [rawInt pos.line, rawInt pos.col, .ref c2] := by rw [Array.toList_append]
    refine go h.objs.size c2 _ ctv _ _ I2 (fun b o e n => grown_old none2 e n) (grown_tabs one tab none2 all ?_ ?_) (Heap.get?_push_size _ rfl) ?_ (Nat.le_trans new (Nat.le_of_lt big)) upd_same
    · rw [split]
      exact PySem.TriplesOk_snoc _ _ _ _ fit
    · intro p cv f2
      rw [split] at f2
      exact among_app _ fit f2
    · have small := I.hok.lt tab
      show (if h.objs.size = c2 then _ else if h.objs.size = P then _ else H h.objs.size) = none
      rw [if_neg (Nat.ne_of_gt big), if_neg (Nat.ne_of_gt (Nat.lt_of_lt_of_le small (Nat.le_trans new (Nat.le_of_lt big))))]
      exact I.hok.fresh (Nat.le_trans new (Nat.le_of_lt big))
end

/-! ### the key -/
section
variable {prog : Program} {w : World} {A : Around} {s : Shared} {mg mb : Str → Option Value}
abbrev kyLen (x : Str) : PyData := .tuple [.int x.length, .str x]
end
end SK

end sec_SK1
section sec_SK2
set_option maxRecDepth 100000
set_option maxHeartbeats 5000000
namespace SK
open PySem PySem.Spec PyProof.Rows L2 LamX PySem.W

section
variable {prog : Program} {w : World} {A : Around} {s : Shared} {mg mb : Str → Option Value}
end
/-! ### the rules -/
section
variable {X : Cx}
/-- texts, by their lengths first -/
def byLen (xs : List Str) : List Str := xs.mergeSort (dataLe false kyLen)
end
end SK

end sec_SK2
section sec_FD8
set_option maxRecDepth 100000
set_option maxHeartbeats 5000000
/-! FD8: C(..), built-in functions and operators, stores into what a slot owns. -/
namespace FD
open PySem L2
variable [Tabl]

structure MakD (P : Program) (w : World) (K : PySem.W.Frag) (mg : Str → Option Value) (base : Heap) (k : Nat) (cn : Str) (n : Nat) (dd : List D) (den : List D → W → Option (List (Str × D) × W)) : Prop where
  ex : ∃ (C f : Addr) (fd : FuncData) (ps : List Str) (ds : List Value) (dvs : List V), Mk K C f ∧ FnOk P w K mg base CX0 k f fd ps (spI ⟨K, mg⟩ n cn den) ∧ mg cn = some (.ref C) ∧ Binds K fd ps ds ∧ Vals dvs ds ∧ ∀ da G, RepAll ⟨K, mg⟩ da G dvs dd
def makM (cn : Str) (den : List D → W → Option (List (Str × D) × W)) (dd : List D) (fa : M (List RV)) : M RV := bindM fa fun rs => bindM (escAll rs) fun ds => fun ρ w => match den (ds ++ dd) w with
  | some (gs, w') => some (.sh (.ins cn gs), ρ, w')
  | none => none
section
variable {X : Cx} {e o : Expr} {es : List Expr} {pos p apos cpos : Pos} {x m f cn : Str} {k j n : Nat} {dd : List D} {fa : M (List RV)} {fo fe fe' : M RV}
/-! ### built-in functions -/
def bM (g : List D → Option RV) (fa : M (List RV)) : M RV := bindM fa fun rs => liftN g rs
theorem b_read {c : Ct} {F : Fm} {g : List D → Option RV} {σ : L2.St} {H : Hp} {Q : VK} (h : tE c F (bM g fa) σ H Q) : tCB (rPure c g) (tA c F fa) σ H Q := by
  obtain ⟨O, ρ, w, r, ρ', w', S, e, k⟩ := h
  refine tA_then S e fun vs O1 ρ1 w1 H1 rs S1 e1 R1 f1 h1 => ?_
  obtain ⟨ds, r', p1, eg, ez⟩ := liftN_some h1
  cases ez
  exact ⟨F.dr.da, O1, ds, r, S1.trk, R1.peeks S1 p1, eg, fun v H3 e3 n => k v O1 H3 (S1.grow e3) (e1.trans (vis_mono e3)) ((n.out S1 e3).less e1)⟩
theorem fe_b {id : String} {g : List D → Option RV} (hc : CallR X (.builtin id) (rPure (ct X) g)) (hg : Gl X x) (hm : X.mg x = none) (hv : bootBuiltins x = some (.builtin id)) (ha : FA X (e :: es) fa) (hn : x ≠ "__name__" := by decide) (hdb : (x == ("__debug__" : Str)) = false := by decide)
    (he : starEach (e :: es) X.env = (false, eval e X.env) :: starEach es X.env := by rfl) (hpl : (backTo pos (starEach es X.env)).any (·.1) = false := by rfl) : FE X (.Call (.Name x p) (e :: es) [] pos) (bM g fa) := fun F =>
  PE.wk (pe_callB hc hg hm hv (ha.run F) hn hdb he hpl) fun σ H Q q => b_read q
theorem fe_ty {T : String} {g : List D → Option RV} (hc : CallR X (.type T) (rPure (ct X) g)) (hg : Gl X x) (hm : X.mg x = none) (hv : bootBuiltins x = some (.type T)) (ha : FA X (e :: es) fa) (hn : x ≠ "__name__" := by decide) (hdb : (x == ("__debug__" : Str)) = false := by decide)
    (he : starEach (e :: es) X.env = (false, eval e X.env) :: starEach es X.env := by rfl) (hpl : (backTo pos (starEach es X.env)).any (·.1) = false := by rfl) : FE X (.Call (.Name x p) (e :: es) [] pos) (bM g fa) := fun F =>
  PE.wk (pe_callTy hc hg hm hv (ha.run F) hn hdb he hpl) fun σ H Q q => b_read q
theorem fe_ix {a b : Expr} {fa fb : M RV} {g : D → D → Option RV} (hr : IxR X (rP2 (ct X) g)) (ha : FE X a fa) (hb : FE X b fb) (hs : PlainIx b) : FE X (.Subscript a b pos) (op2M g fa fb) := fun F =>
  PE.wk (pe_ix hr (ha F) (hb F) hs) fun σ H Q h => op2_read h
/-- o.m(e), a method of a text -/
def strM (g : Str → D → Option RV) (fo fe : M RV) : M RV := bindM fo fun r => match r with
  | .sh (.str s) => bindM fe fun r2 => lift1 (g s) r2
  | _ => failM
/-! ### sorted(set(text)), sorted by key -/
def ssetM (f : M RV) : M RV := bindM f fun r => match r with
  | .sh (.str x) => if x.cps.size < 4000 then pureM (.fr (.lst ((ST.sset x).map D.str))) else failM
  | _ => failM
def asStr : D → Option Str
  | .str x => some x
  | _ => none
def asStrs : List D → Option (List Str)
  | [] => some []
  | d :: r => match asStr d with
    | some x => (match asStrs r with | some xs => some (x :: xs) | none => none)
    | none => none
def textsD : D → Option (List Str)
  | .lst ds => asStrs ds
  | _ => none
def sortM (srt : List Str → List Str) (f : M RV) : M RV := bindM f fun r => lift1 (fun d => match textsD d with
  | some xs => if xs.all (fun x => decide (x.length ≤ 1000000)) = true then some (.fr (.lst ((srt xs).map D.str))) else none
  | none => none) r
end
end FD

end sec_FD8
section sec_OE1
set_option maxRecDepth 100000
set_option maxHeartbeats 5000000
/-! OE: != of an instance by object.__ne__ over an own __eq__, whatever stands at the right. -/
namespace OE
open PySem PySem.Spec PyProof.Rows L2
/-- the class at C has an own __eq__ at f, and object's __ne__ -/
structure OwnEq (K : PySem.W.Frag) (C f : Addr) : Prop where
  ne : PySem.W.findIn K (.ref C) "__ne__" = some (some (.builtin "object.__ne__"))
  obj : PySem.W.subIn K (.ref C) (.type "object") = some true
  eq : PySem.W.findIn K (.ref C) "__eq__" = some (some (.ref f))
  fn : PySem.W.isFn K (.ref f) = true
section
variable {P : Program} {w : World} {A : Around} {E : Value → Shared → Prop} {s : Shared} {K : PySem.W.Frag} {x C f : Addr} {ox : Obj} {od : Option Obj} {b tb : Value}
/-- the answer of __eq__, turned about -/
def Turned (Q : Value → Shared → Prop) (v : Value) (s : Shared) : Prop := ∃ c, v = .bool c ∧ Q (.bool (!c)) s
theorem slot {Q : Value → Shared → Prop} (room : A.units + 1 < cLine) (X : K.In s.heap) (I : PySem.W.InstAt s.heap x ox C od) (O : OwnEq K C f) (run : wpAny (model P w) A.in1 (call (.ref f) [.ref x, b]) (Turned Q) E s) :
    wpAny (model P w) A (call (.builtin "object.__ne__") [.ref x, b]) Q E s := by
  apply wpAny_call
  apply codeAny_call_builtin (by decide +kernel) F.cmpEntry_ne
  apply PySem.W.check_slot (M := model P w) F.cmpKind_ne F.cmpSplit_ne (I.type.andThen (PySem.W.looks_subIn X O.obj)) (F.cmpArgs_ne _ _)
  show wpAny _ A.in1 (Builtin.«object.__ne__» _) _ _ s
  rw [Builtin.«object.__ne__»]
  apply wpAny_bind (m := slotArgs "__ne__" 1 ⟨[.ref x, b], []⟩)
  apply wpAny_pure
  apply wpAny_bind
  apply wpAny_cRoomFor (A := A.in1) room
  apply wpAny_bind
  apply PySem.W.ifBound_K X I O.eq O.fn
  apply wpAny_mono run ?_ (fun _ _ => id)
  rintro v s2 ⟨c, rfl, q⟩
  exact wpAny_bind (wpAny_truthy_bool (wpAny_pure q))
end
end OE

end sec_OE1
section sec_FD9
set_option maxRecDepth 100000
set_option maxHeartbeats 5000000
/-! FD9: kinds of values, isinstance, own ==, lists that a slot owns. -/
namespace FD
open PySem L2
variable [Tabl]

def tyB : D → Option String
  | .non => some "NoneType"
  | .bl _ => some "bool"
  | .int _ => some "int"
  | .str _ => some "str"
  | .tup _ => some "tuple"
  | .ktup _ => some "tuple"
  | .lst _ => some "list"
  | .dic _ => some "dict"
  | .dit _ => some "dict"
  | _ => none
section
variable {c : Ct} {da : Option Addr} {O : List Addr} {H : Hp} {v : V}
theorem ty_of {d : D} {T : String} (h : RepP c da O H v d) (e : tyB d = some T) : TyX c.K H v (.type T) := by
  cases d with
  | non => cases e; rw [h.non]; exact .base .non
  | bl b => cases e; rw [h.bl]; exact .base (.bl b)
  | int i => cases e; rw [h.int]; exact .base (.int i)
  | str x => cases e; rw [h.str]; exact .base (.str x)
  | tup ds =>
    cases e
    obtain ⟨a, xs, rfl, s, _, _⟩ := h.tup
    rcases s with (s | ⟨o, s⟩) | ⟨o, its, n, hk, hc, _⟩
    · exact .base (.tup s)
    · exact .fTuple s
    · exact .kTuple hk hc
  | ktup ds =>
    cases e
    obtain ⟨a, xs, rfl, s, _, _⟩ := h.ktup
    rcases s with (s | ⟨o, s⟩) | ⟨o, its, n, hk, hc, _⟩
    · exact .base (.tup s)
    · exact .fTuple s
    · exact .kTuple hk hc
  | lst ds =>
    cases e
    obtain ⟨a, xs, rfl, s, _⟩ := h.lst
    exact .base (.lst s)
  | dic ps =>
    cases e
    obtain ⟨a, kvs, rfl, s, _⟩ := h.dic
    exact .base (.dK s)
  | dit ps =>
    cases e
    obtain ⟨a, kvs, rfl, s, _⟩ := h.dit
    exact .base (.dT s)
  | _ => cases e
structure InsTy (K : PySem.W.Frag) (mg : Str → Option Value) (cn : Str) (C : Addr) : Prop where
  m : mg cn = some (.ref C)
  cl : Cls K C
  ok : PySem.W.findIn K (.ref C) "__class__" = some (some (.builtin "object.__class__")) ∧ PySem.W.specialIn K (.builtin "object.__class__") "__get__" = some (some (.builtin "getset_descriptor.__get__")) ∧
    PySem.W.takesIn K (.builtin "object.__class__") = some true ∧ PySem.W.mroIn K C (.type "object") = some true
theorem ty_ins {cn : Str} {gs : List (Str × D)} {C : Addr} (h : RepP c da O H v (.ins cn gs)) (i : InsTy c.K c.mg cn C) : TyX c.K H v (.ref C) := by
  obtain ⟨a, C', dx, fs, rfl, e, m, _⟩ := h.ins
  rw [i.m] at m
  cases m
  exact .base (.ins e i.cl i.ok.1 i.ok.2.1 i.ok.2.2.1 i.ok.2.2.2)
end
/-- what is known of a value's type: bt of the built-in ones, ic of instances -/
structure KndD (K : PySem.W.Frag) (mg : Str → Option Value) (ok : Value → Bool → Prop) (bt : String → Bool) (ic : List (Str × Bool)) : Prop where
  bi : ∀ T ∈ ["NoneType", "bool", "int", "str", "tuple", "list", "dict"], ok (.type T) (bt T)
  ins : ∀ p ∈ ic, ∃ C, InsTy K mg p.1 C ∧ ok (.ref C) p.2
def isiD (bt : String → Bool) (ic : List (Str × Bool)) : D → Option Bool
  | .ins cn _ => ic.lookup cn
  | d => (tyB d).map bt
theorem lookup_mem {α : Type} {l : List (Str × α)} {k : Str} {x : α} (h : l.lookup k = some x) : (k, x) ∈ l := PySem.mem_of_lookup h
theorem knd_of {c : Ct} {da : Option Addr} {O : List Addr} {H : Hp} {v : V} {d : D} {ok : Value → Bool → Prop} {bt : String → Bool} {ic : List (Str × Bool)} {b : Bool} (k : KndD c.K c.mg ok bt ic) (h : RepP c da O H v d) (e : isiD bt ic d = some b) : ∃ t, TyX c.K H v t ∧ ok t b := by
  have gen : ∀ d, RepP c da O H v d → (tyB d).map bt = some b → ∃ t, TyX c.K H v t ∧ ok t b := fun d h e => by
    cases q : tyB d with
    | none =>
      rw [q] at e
      cases e
    | some T =>
      rw [q] at e
      cases e
      refine ⟨_, ty_of h q, k.bi T ?_⟩
      cases d <;> first | cases q; done | (cases q; simp)
  cases d with
  | ins cn gs =>
    obtain ⟨C, i, o⟩ := k.ins _ (lookup_mem e)
    exact ⟨_, ty_ins h i, o⟩
  | _ => exact gen _ h e

section
variable {X : Cx} {a b e o c1 : Expr} {es cs : List Expr} {pos p p2 apos cpos : Pos} {x m f cn : Str} {k j n i : Nat} {dd : List D} {fa fb fo fe fe' : M RV} {fas : M (List RV)}
def tKs (us : List V) : TA := fun _ H Q => Q us H
theorem pks_nil : PA X [] (tKs []) := pa_nil
theorem pks_cons {u : V} {us : List V} (h : PE X e (tC u)) (hr : PA X es (tKs us)) (hs : starEach (e :: es) X.env = (false, eval e X.env) :: starEach es X.env := by rfl) : PA X (e :: es) (tKs (u :: us)) := pa_cons h hr hs
theorem bt_isi : bootBuiltins "isinstance" = some (.builtin "isinstance") := by decide +kernel
def isiM (bt : String → Bool) (ic : List (Str × Bool)) (fa : M RV) : M RV := op1M (fun d => (isiD bt ic d).map fun b => .sh (.bl b)) fa
theorem fe_isi {u : V} {uv : Value} {bt : String → Bool} {ic : List (Str × Bool)} (hg : Gl X "isinstance") (hm : X.mg "isinstance" = none) (hc : PE X c1 (tC u)) (hu : ClsV u uv) (hk : KndD X.K X.mg (fun t b => PySem.W.kitOne X.K t uv = some b) bt ic) (ha : FE X a fa)
    (hs : starEach [a, c1] X.env = (false, eval a X.env) :: starEach [c1] X.env := by rfl) (hs2 : starEach [c1] X.env = (false, eval c1 X.env) :: starEach [] X.env := by rfl) (hpl : (backTo pos (starEach [c1] X.env)).any (·.1) = false := by rfl) :
    FE X (.Call (.Name "isinstance" p) [a, c1] [] pos) (isiM bt ic fa) := fun F =>
  PE.wk (pe_callB call_isi hg hm bt_isi (pa_cons (ha F) (pks_cons hc pks_nil hs2) hs) (by decide) (by decide) hs hpl) fun σ H Q q => by
    obtain ⟨O, ρ, w, r, ρ', w', S, e, k⟩ := q
    refine tE_then S e fun v O1 ρ1 w1 H1 r1 S1 e1 R1 h1 => ?_
    obtain ⟨d1, r', p1, eg, ez⟩ := lift1_some h1
    cases ez
    cases q : isiD bt ic d1 with
    | none =>
      rw [q] at eg
      cases eg
    | some b =>
      rw [q] at eg
      cases eg
      obtain ⟨t, ty, ok⟩ := knd_of (c := ct X) hk (R1.hold.peek S1 p1) q
      exact ⟨v, u, t, uv, b, rfl, hu, ty, ok, k _ O1 H1 S1 e1 (.bl b)⟩
theorem fe_isiT {us : List V} {uvs : List Value} {bt : String → Bool} {ic : List (Str × Bool)} {i1 : Nat} (hg : Gl X "isinstance") (hm : X.mg "isinstance" = none) (hc : PA X cs (tKs us)) (hl : us.length ≤ 1000000) (hu : Paired ClsV us uvs) (hk : KndD X.K X.mg (fun t b => PySem.W.kitAny X.K t uvs = some b) bt ic) (ha : FE X a fa)
    (hs : starEach [a, .Tuple cs i1 p2] X.env = (false, eval a X.env) :: starEach [.Tuple cs i1 p2] X.env := by rfl) (hs2 : starEach [.Tuple cs i1 p2] X.env = (false, eval (.Tuple cs i1 p2) X.env) :: starEach [] X.env := by rfl) (hpl : (backTo pos (starEach [.Tuple cs i1 p2] X.env)).any (·.1) = false := by rfl) :
    FE X (.Call (.Name "isinstance" p) [a, .Tuple cs i1 p2] [] pos) (isiM bt ic fa) := fun F =>
  PE.wk (pe_callB call_isiT hg hm bt_isi (pa_cons (ha F) (pa_cons (pe_tup hc) pa_nil hs2) hs) (by decide) (by decide) hs hpl) fun σ H Q q => by
    obtain ⟨O, ρ, w, r, ρ', w', S, e, k⟩ := q
    refine tE_then S e fun v O1 ρ1 w1 H1 r1 S1 e1 R1 h1 => ?_
    obtain ⟨d1, r', p1, eg, ez⟩ := lift1_some h1
    cases ez
    cases q : isiD bt ic d1 with
    | none =>
      rw [q] at eg
      cases eg
    | some b =>
      rw [q] at eg
      cases eg
      refine ⟨small_fits hl, fun p np => ?_⟩
      have x2 : Ex H1 (upd H1 p (.tup us)) := Ex.new np
      have S2 := S1.grow x2
      obtain ⟨t, ty, ok⟩ := knd_of (c := ct X) hk ((R1.hold.mono (vis_mono x2)).peek S2 p1) q
      exact ⟨v, p, us, t, uvs, b, rfl, upd_same, hu, ty, ok, k _ O1 _ S2 (e1.trans (vis_mono x2)) (.bl b)⟩

/-! ### an own __eq__ -/
structure EqsD (P : Program) (w : World) (K : PySem.W.Frag) (mg : Str → Option Value) (base : Heap) (k : Nat) (cn : Str) (ic : List (Str × Bool)) (den : List D → W → Option (RV × W)) : Prop where
  ex : ∃ (C f : Addr) (fd : FuncData) (ps : List Str), mg cn = some (.ref C) ∧ PySem.W.findIn K (.ref C) "__ne__" = some (some (.builtin "object.__ne__")) ∧ PySem.W.subIn K (.ref C) (.type "object") = some true ∧ PySem.W.findIn K (.ref C) "__eq__" = some (some (.ref f)) ∧ PySem.W.isFn K (.ref f) = true ∧
    FnOk P w K mg base CX0 k f fd ps (spD ⟨K, mg⟩ 2 den) ∧ Binds K fd ps [] ∧ KndD K mg (fun t b => PySem.W.notFirst K C t = b ∧ b = true) (fun _ => true) ic
end
end FD

end sec_FD9
section sec_FD10
set_option maxRecDepth 100000
set_option maxHeartbeats 5000000
/-! FD10: operators, subscripts, slices, built-in functions by plain data. -/
namespace FD
open PySem L2
variable [Tabl]

/-! ### comparisons of data -/
mutual
def toPy : D → Option PyData
  | .non => some .none
  | .bl b => some (.bool b)
  | .int i => some (.int i)
  | .str x => some (.str x)
  | .tup ds => (toPys ds).map .tuple
  | .ktup ds => (toPys ds).map .tuple
  | .lst ds => (toPys ds).map .list
  | _ => none
def toPys : List D → Option (List PyData)
  | [] => some []
  | d :: r => match toPy d with
    | some p => (toPys r).map (p :: ·)
    | none => none
end
section
variable {c : Ct} {da : Option Addr} {G H : Hp}
mutual
theorem Rep.dp (x : Ex G H) : ∀ {v : V} {d : D} {p : PyData}, Rep c da G v d → toPy d = some p → Dp c.K H v p
  | _, _, _, .non, e => by cases e; exact .non
  | _, _, _, .bl b, e => by cases e; exact .bl b
  | _, _, _, .int i, e => by cases e; exact .int i
  | _, _, _, .str y, e => by cases e; exact .str y
  | _, _, _, .ty n, e => by cases e
  | _, _, _, .draw h, e => by cases e
  | _, .tup ds, _, .tup s r, e => by
    simp only [toPy] at e
    cases q : toPys ds with
    | none =>
      rw [q] at e
      cases e
    | some ps =>
      rw [q] at e
      cases e
      exact .tup (.inl (.inl (x _ _ s))) (RepAll.dp x r q)
  | _, .ktup ds, _, .ktup s r, e => by
    simp only [toPy] at e
    cases q : toPys ds with
    | none =>
      rw [q] at e
      cases e
    | some ps =>
      rw [q] at e
      cases e
      exact .tup (x.st s) (RepAll.dp x r q)
  | _, .lst ds, _, .lst s r, e => by
    simp only [toPy] at e
    cases q : toPys ds with
    | none =>
      rw [q] at e
      cases e
    | some ps =>
      rw [q] at e
      cases e
      exact .lst (.inl (.inl (x _ _ s))) (RepAll.dp x r q)
  | _, _, _, .scr s, e => by cases e
  | _, _, _, .dK s r, e => by cases e
  | _, _, _, .dT s r, e => by cases e
  | _, _, _, .fdT s r, e => by cases e
  | _, _, _, .exc s s2 m r, e => by cases e
  | _, _, _, .exo s m, e => by cases e
  | _, _, _, .ins s m r, e => by cases e
  | _, .lam i ds, _, .lam t s s2 k r, e => by
    simp only [toPy] at e
    cases e
theorem RepAll.dp (x : Ex G H) : ∀ {vs : List V} {ds : List D} {ps : List PyData}, RepAll c da G vs ds → toPys ds = some ps → DpAll c.K H vs ps
  | _, _, _, .nil, e => by
    simp only [toPys] at e
    cases e
    exact .nil
  | _, d :: ds, _, .cons h r, e => by
    simp only [toPys] at e
    cases q : toPy d with
    | none =>
      rw [q] at e
      cases e
    | some p =>
      rw [q] at e
      dsimp only at e
      cases q2 : toPys ds with
      | none =>
        rw [q2] at e
        cases e
      | some ps =>
        rw [q2] at e
        cases e
        exact .cons (Rep.dp x h q) (RepAll.dp x r q2)
end
theorem RepP.dp {O : List Addr} {v : V} {d : D} {p : PyData} (h : RepP c da O H v d) (e : toPy d = some p) : Dp c.K H v p := by
  rcases h with h | ⟨a, o, rfl, ha, ob⟩
  · exact h.dp vis_ex e
  · rcases ob with ⟨xs, ds, rfl, rfl, r⟩ | ⟨_, _, _, rfl, _⟩ | ⟨_, _, _, rfl, _⟩ | ⟨_, _, _, _, _, _, rfl, _⟩
    · simp only [toPy] at e
      cases q : toPys ds with
      | none =>
        rw [q] at e
        cases e
      | some ps =>
        rw [q] at e
        cases e
        exact .lst (.inl (.inl ha)) (r.dp vis_ex q)
    · cases e
    · cases e
    · cases e
end
def cmpD (d1 d2 : D) : Option Bool := match toPy d1 with
  | some p => (match toPy d2 with
    | some q => if SeqAt.shaped p = true ∧ SeqAt.shaped q = true then some (PyData.eqv p q) else none
    | none => none)
  | none => none
def eqD (d1 d2 : D) : Option RV := (cmpD d1 d2).map fun b => .sh (.bl b)
def neD (d1 d2 : D) : Option RV := (cmpD d1 d2).map fun b => .sh (.bl (!b))
theorem cmpD_some {d1 d2 : D} {b : Bool} (h : cmpD d1 d2 = some b) : ∃ p q, toPy d1 = some p ∧ toPy d2 = some q ∧ SeqAt.shaped p = true ∧ SeqAt.shaped q = true ∧ b = PyData.eqv p q := by
  unfold cmpD at h
  split at h
  · rename_i p e1
    split at h
    · rename_i q e2
      split at h
      · rename_i hs
        cases h
        exact ⟨p, q, e1, e2, hs.1, hs.2, rfl⟩
      · cases h
    · cases h
  · cases h
section
variable {X : Cx}
theorem opD_eq {k : Nat} (hr : Room k X.A) : OpR X (compareOp .Eq) (rP2 (ct X) eqD) := by
  intro pins s σ H x y v u Q I rx ry h
  obtain ⟨da, O, d1, d2, r, hO, h1, h2, eg, q⟩ := h
  cases e : cmpD d1 d2 with
  | none =>
    unfold eqD at eg
    rw [e] at eg
    cases eg
  | some b =>
    unfold eqD at eg
    rw [e] at eg
    cases eg
    obtain ⟨p, p', e1, e2, s1, s2, rfl⟩ := cmpD_some e
    exact op_eqD hr.units pins s σ H x y v u Q I rx ry ⟨p, p', h1.dp e1, h2.dp e2, s1, s2, q _ _ (Ex.refl _) (.bl _)⟩
theorem opD_ne {k : Nat} (hr : Room k X.A) : OpR X (compareOp .NotEq) (rP2 (ct X) neD) := by
  intro pins s σ H x y v u Q I rx ry h
  obtain ⟨da, O, d1, d2, r, hO, h1, h2, eg, q⟩ := h
  cases e : cmpD d1 d2 with
  | none =>
    unfold neD at eg
    rw [e] at eg
    cases eg
  | some b =>
    unfold neD at eg
    rw [e] at eg
    cases eg
    obtain ⟨p, p', e1, e2, s1, s2, rfl⟩ := cmpD_some e
    exact op_neD hr.units pins s σ H x y v u Q I rx ry ⟨p, p', h1.dp e1, h2.dp e2, s1, s2, q _ _ (Ex.refl _) (.bl _)⟩
def ordD (f : Int → Int → Bool) (g : Str → Str → Bool) : D → D → Option RV
  | .int i, .int j => some (.sh (.bl (f i j)))
  | .str x, .str y => some (.sh (.bl (g x y)))
  | _, _ => none
theorem opD_ord {op : CmpOp} {f : Int → Int → Bool} {g : Str → Str → Bool} (h1 : OpR X (compareOp op) (rI0 fun i j => .bl (f i j))) (h2 : OpR X (compareOp op) (fun x y H Q => ∃ i j, x = .str i ∧ y = .str j ∧ Q (.bl (g i j)) H)) : OpR X (compareOp op) (rP2 (ct X) (ordD f g)) := by
  intro pins s σ H x y v u Q I rx ry h
  obtain ⟨da, O, d1, d2, r, hO, p1, p2, eg, q⟩ := h
  unfold ordD at eg
  split at eg
  · cases eg
    exact h1 pins s σ H x y v u Q I rx ry ⟨_, _, p1.int, p2.int, q _ _ (Ex.refl _) (.bl _)⟩
  · cases eg
    exact h2 pins s σ H x y v u Q I rx ry ⟨_, _, p1.str, p2.str, q _ _ (Ex.refl _) (.bl _)⟩
  · cases eg
def ltS (x y : Str) : Bool := decide (x.cps.toList < y.cps.toList)
theorem opD_lt : OpR X (compareOp .Lt) (rP2 (ct X) (ordD (fun i j => decide (i < j)) ltS)) := opD_ord op_lt op_lt_str
/-- ints alone -/
def intD (f : Int → Int → Option RV) : D → D → Option RV
  | .int i, .int j => f i j
  | _, _ => none
theorem opD_int {opf : Value → Value → Sem Value} {C : Int → Int → Prop} {g : Int → Int → V} {f : Int → Int → Option RV} (h1 : OpR X opf (rI C g)) (hf : ∀ i j r, f i j = some r → C i j ∧ ∃ d, r = .sh d ∧ ∀ c da G, Rep c da G (g i j) d) : OpR X opf (rP2 (ct X) (intD f)) := by
  intro pins s σ H x y v u Q I rx ry h
  obtain ⟨da, O, d1, d2, r, hO, p1, p2, eg, q⟩ := h
  unfold intD at eg
  split at eg
  · obtain ⟨hc, d, rfl, rd⟩ := hf _ _ _ eg
    exact h1 pins s σ H x y v u Q I rx ry ⟨_, _, p1.int, p2.int, hc, q _ _ (Ex.refl _) (rd _ _ _)⟩
  · cases eg
theorem rI_of0 {opf : Value → Value → Sem Value} {g : Int → Int → V} (h : OpR X opf (rI0 g)) : OpR X opf (rI (fun _ _ => True) g) := by
  intro pins s σ H x y v u Q I rx ry ⟨i, j, h1, h2, _, q⟩
  exact h pins s σ H x y v u Q I rx ry ⟨i, j, h1, h2, q⟩
def i0 (f : Int → Int → D) (i j : Int) : Option RV := some (.sh (f i j))
theorem opD_gt : OpR X (compareOp .Gt) (rP2 (ct X) (intD (i0 fun i j => .bl (decide (j < i))))) := opD_int (rI_of0 op_gt) fun i j r e => by cases e; exact ⟨trivial, _, rfl, fun _ _ _ => .bl _⟩
theorem opD_ge : OpR X (compareOp .GtE) (rP2 (ct X) (intD (i0 fun i j => .bl (decide (j ≤ i))))) := opD_int (rI_of0 op_ge) fun i j r e => by cases e; exact ⟨trivial, _, rfl, fun _ _ _ => .bl _⟩
theorem opD_sub : OpR X (binaryOp .Sub) (rP2 (ct X) (intD (i0 fun i j => .int (i - j)))) := opD_int (rI_of0 op_sub) fun i j r e => by cases e; exact ⟨trivial, _, rfl, fun _ _ _ => .int _⟩
def modI (i j : Int) : Option RV := if 0 < j then some (.sh (.int (i % j))) else none
theorem opD_mod : OpR X (binaryOp .Mod) (rP2 (ct X) (intD modI)) := opD_int op_mod fun i j r e => by
  unfold modI at e
  split at e
  · rename_i h
    cases e
    exact ⟨h, _, rfl, fun _ _ _ => .int _⟩
  · cases e
def fdivI (i j : Int) : Option RV := if 0 < j ∧ j.natAbs.log2 < 9000 then some (.sh (.int (i / j))) else none
theorem opD_fdiv : OpR X (binaryOp .FloorDiv) (rP2 (ct X) (intD fdivI)) := opD_int op_fdivW fun i j r e => by
  unfold fdivI at e
  split at e
  · rename_i h
    cases e
    exact ⟨h, _, rfl, fun _ _ _ => .int _⟩
  · cases e
/-! ### + -/
def addD : D → D → Option RV
  | .int i, .int j => some (.sh (.int (i + j)))
  | .str x, .str y => if x.length + y.length ≤ 1000000 then some (.sh (.str (x ++ y))) else none
  | .lst xs, .lst ys => if xs.length + ys.length ≤ 1000000 then some (.fr (.lst (xs ++ ys))) else none
  | .tup xs, .tup ys => if xs.length + ys.length ≤ 1000000 then some (.sh (.tup (xs ++ ys))) else none
  | _, _ => none
theorem repN_lst {c : Ct} {da : Option Addr} {O : List Addr} {H : Hp} {p : Addr} {xs : List V} {ds : List D} (np : H p = none) (r : RepAll c da (vis O H) xs ds) : RepN c da O H (upd H p (.lst xs)) (.fr (.lst ds)) (.ref p) := by
  refine ⟨p, _, rfl, np, upd_same, .inl ⟨xs, ds, rfl, rfl, r.mono fun b o h => ?_⟩⟩
  obtain ⟨n, h⟩ := vis_some h
  rw [vis_out fun z => ?_]
  · exact Ex.new np b o h
  · rcases List.mem_cons.mp z with z | z
    · exact ne_of_none h np z
    · exact n z
/-- a place of which nothing is known may be hidden: a new tuple is laid where H is free -/
theorem repN_tup {c : Ct} {da : Option Addr} {O : List Addr} {H : Hp} {p : Addr} {xs : List V} {ds : List D} (np : H p = none) (hO : ∀ a ∈ O, ∃ o, H a = some o ∧ NT o) (r : RepAll c da (vis O H) xs ds) : RepN c da O H (upd H p (.tup xs)) (.sh (.tup ds)) (.ref p) := by
  have n : p ∉ O := fun z => by
    obtain ⟨o, e, _⟩ := hO p z
    rw [np] at e
    cases e
  refine .tup ?_ (r.mono (vis_mono (Ex.new np)))
  rw [vis_out n]
  exact upd_same
theorem opD_add : OpR X (binaryOp .Add) (rP2 (ct X) addD) := by
  intro pins s σ H x y v u Q I rx ry h
  obtain ⟨da, O, d1, d2, r, hO, p1, p2, eg, q⟩ := h
  unfold addD at eg
  split at eg
  · cases eg
    exact op_add pins s σ H x y v u Q I rx ry ⟨_, _, p1.int, p2.int, q _ _ (Ex.refl _) (.int _)⟩
  · split at eg
    · rename_i hz
      cases eg
      exact op_add_str pins s σ H x y v u Q I rx ry ⟨_, _, p1.str, p2.str, small_fits hz, q _ _ (Ex.refl _) (.str _)⟩
    · cases eg
  · split at eg
    · rename_i hz
      cases eg
      obtain ⟨a, xs, rfl, ea, ra⟩ := p1.lst
      obtain ⟨b, ys, rfl, eb, rb⟩ := p2.lst
      exact op_cat pins s σ H _ _ v u Q I rx ry ⟨a, b, xs, ys, rfl, rfl, ea, eb, small_fits (by rw [ra.length, rb.length]; exact hz), fun p np => q _ _ (Ex.new np) (repN_lst np (ra.append rb))⟩
    · cases eg
  · split at eg
    · rename_i hz
      cases eg
      obtain ⟨a, xs, rfl, ea, ra, Ra⟩ := p1.tup
      obtain ⟨b, ys, rfl, eb, rb, Rb⟩ := p2.tup
      refine op_catA pins s σ H _ _ v u Q I rx ry ⟨a, b, xs, ys, rfl, rfl, ea, eb, small_fits (by rw [ra.length, rb.length]; exact hz), fun e => ?_, fun _ e => ?_, fun _ _ p np => q _ _ (Ex.new np) (repN_tup np hO (ra.append rb))⟩
      · subst e
        cases ra
        exact q _ _ (Ex.refl _) Rb
      · subst e
        cases rb
        rw [List.append_nil] at q
        exact q _ _ (Ex.refl _) Ra
    · cases eg
  · cases eg

/-! ### * -/
def mulD : D → D → Option RV
  | .int i, .int j => if i.natAbs.log2 + j.natAbs.log2 < 1000000 then some (.sh (.int (i * j))) else none
  | .str x, .int n => if n = 0 then some (.sh (.str Str.empty)) else if n = 1 then some (.sh (.str x)) else none
  | _, _ => none
theorem opD_mul : OpR X (binaryOp .Mult) (rP2 (ct X) mulD) := by
  intro pins s σ H x y v u Q I rx ry h
  obtain ⟨da, O, d1, d2, r, hO, p1, p2, eg, q⟩ := h
  unfold mulD at eg
  split at eg
  · split at eg
    · rename_i hc
      cases eg
      exact op_mulW pins s σ H x y v u Q I rx ry ⟨_, _, p1.int, p2.int, hc, q _ _ (Ex.refl _) (.int _)⟩
    · cases eg
  · rename_i x0 n
    have ex := p1.str
    have ey := p2.int
    subst ex
    subst ey
    obtain ⟨t, rfl⟩ := rx
    obtain ⟨t2, rfl⟩ := ry
    split at eg
    · rename_i hn
      cases eg
      subst hn
      exact PySem.P.mul_str_none (by decide) (by decide) ⟨.str Str.empty, H, I.tok _, ⟨_, rfl⟩, q _ _ (Ex.refl _) (.str _)⟩
    · split at eg
      · rename_i hn
        cases eg
        subst hn
        refine PySem.P.mul_str (by decide) (fun _ h => by simp at h) (fun _ h => by simp at h) ?_
        rw [if_neg (by decide), if_pos (by simp)]
        exact ⟨.str x0, H, I, ⟨_, rfl⟩, q _ _ (Ex.refl _) (.str _)⟩
      · cases eg
  · cases eg

/-! ### subscripts -/
def ixD : D → D → Option RV
  | .lst xs, .int i => (atI xs i).map .sh
  | .tup xs, .int i => (atI xs i).map .sh
  | .ktup xs, .int i => (atI xs i).map .sh
  | .str z, .int i => if z.length ≤ 1000000 then (atI z.cps.toList i).map fun c => .sh (.str ⟨#[c]⟩) else none
  | _, _ => none
theorem RepAll.atI {c : Ct} {da : Option Addr} {G : Hp} {vs : List V} {ds : List D} {i : Int} {d : D} (r : RepAll c da G vs ds) (h : L2.atI ds i = some d) : ∃ v, L2.atI vs i = some v ∧ Rep c da G v d := by
  unfold L2.atI at h ⊢
  rw [r.length]
  cases e : ixN ds.length i with
  | none =>
    rw [e] at h
    cases h
  | some j =>
    rw [e] at h
    exact r.get h
theorem ixD_ok : IxR X (rP2 (ct X) ixD) := by
  intro value slice pins s σ H x y v u Q I rx ry h hs
  obtain ⟨da, O, d1, d2, r, hO, p1, p2, eg, q⟩ := h
  unfold ixD at eg
  split at eg
  · rename_i xs i
    cases e : L2.atI xs i with
    | none =>
      rw [e] at eg
      cases eg
    | some d =>
      rw [e] at eg
      cases eg
      obtain ⟨a, ys, rfl, ea, ra⟩ := p1.lst
      obtain ⟨z, hz, rz⟩ := ra.atI e
      exact ix_list value slice pins s σ H _ _ v u Q I rx ry ⟨a, ys, i, z, rfl, p2.int, .inl (.inl ea), hz, q _ _ (Ex.refl _) rz⟩ hs
  · rename_i xs i
    cases e : L2.atI xs i with
    | none =>
      rw [e] at eg
      cases eg
    | some d =>
      rw [e] at eg
      cases eg
      obtain ⟨a, ys, rfl, ea, ra, _⟩ := p1.tup
      obtain ⟨z, hz, rz⟩ := ra.atI e
      exact ix_tup value slice pins s σ H _ _ v u Q I rx ry ⟨a, ys, i, z, rfl, p2.int, ea, hz, q _ _ (Ex.refl _) rz⟩ hs
  · rename_i xs i
    cases e : L2.atI xs i with
    | none =>
      rw [e] at eg
      cases eg
    | some d =>
      rw [e] at eg
      cases eg
      obtain ⟨a, ys, rfl, ea, ra, _⟩ := p1.ktup
      obtain ⟨z, hz, rz⟩ := ra.atI e
      exact ix_tup value slice pins s σ H _ _ v u Q I rx ry ⟨a, ys, i, z, rfl, p2.int, ea, hz, q _ _ (Ex.refl _) rz⟩ hs
  · rename_i z i
    split at eg
    · rename_i hz
      cases e : L2.atI z.cps.toList i with
      | none =>
        rw [e] at eg
        cases eg
      | some d =>
        rw [e] at eg
        cases eg
        exact ix_str value slice pins s σ H _ _ v u Q I rx ry ⟨z, i, d, p1.str, p2.int, small_fits hz, e, q _ _ (Ex.refl _) (.str _)⟩ hs
    · cases eg
  · cases eg
end
end FD

end sec_FD10
section sec_ZP
set_option maxRecDepth 100000
set_option maxHeartbeats 5000000
/-! ZP: zip of two and of three, each a list, a tuple or a text. -/
namespace ZP
open PySem PySem.Spec PyProof.Rows L2

/-- what zip draws from -/
inductive Src where
  | lst (a : Addr) | tup (a : Addr) | txt (x : Str)
def Src.has (K : PySem.W.Frag) (H : Hp) : Src → List V → Prop
  | .lst a, xs => SqL K H a xs
  | .tup a, xs => SqT K H a xs
  | .txt x, xs => xs = x.cps.toList.map fun c => V.str ⟨#[c]⟩
def Src.at_ : Src → Addr → Nat → Heap → Prop
  | .lst a, it, i, h => h.IsListIter it a i
  | .tup a, it, i, h => h.IsTupleIter it a i
  | .txt x, it, i, h => ∃ t, h.IsStrIter it (strIterType x) x t i
def Src.far : Src → Addr → Prop
  | .lst a, b => a ≠ b
  | .tup a, b => a ≠ b
  | .txt _, _ => True
theorem Src.inj {X : Cx} {pins : List (Addr × Obj)} {σ : L2.St} {H : Hp} {s : Shared} (I : Inv X pins σ H s) : ∀ {r : Src} {xs ys : List V}, r.has X.K H xs → r.has X.K H ys → xs = ys
  | .lst _, _, _, h, k => I.list_inj h k
  | .tup _, _, _, h, k => I.tuple_inj h k
  | .txt _, _, _, h, k => h.trans k.symm
theorem noCell {h : Heap} {it : Addr} {o : Obj} {vs : Array Value} (e : h.get? it = some o) (d : o.data = .fields vs) : ∃ o, h.get? it = some o ∧ ∀ v, o.data ≠ .cell v := ⟨o, e, by simp [d]⟩
theorem Src.live {r : Src} {it : Addr} {i : Nat} {h : Heap} (q : r.at_ it i h) : ∃ o, h.get? it = some o ∧ ∀ v, o.data ≠ .cell v := by
  cases r with
  | lst a =>
    obtain ⟨_, e, _, d⟩ := q
    exact noCell e d
  | tup a =>
    obtain ⟨_, e, _, d⟩ := q
    exact noCell e d
  | txt x =>
    obtain ⟨_, _, e, _, d⟩ := q
    exact noCell e d
theorem Src.keep {r : Src} {it : Addr} {i : Nat} {h h' : Heap} (q : r.at_ it i h) (k : ∀ o, h.get? it = some o → h'.get? it = some o) : r.at_ it i h' := by
  cases r with
  | lst a => exact Heap.IsListIter.at q k
  | tup a => exact Heap.IsTupleIter.at q k
  | txt x =>
    obtain ⟨t, o, e, r⟩ := q
    exact ⟨t, o, k o e, r⟩
theorem vals_at : ∀ {xs : List V} {us : List Value}, Vals xs us → ∀ {j : Nat} {u : Value}, us[j]? = some u → ∃ x, xs[j]? = some x ∧ RelV x u
  | _, _, .nil, _, _, h => by simp at h
  | _, _, .cons r t, 0, _, h => ⟨_, rfl, by cases h; exact r⟩
  | _, _, .cons r t, j + 1, _, h => by
    obtain ⟨x, e, k⟩ := vals_at t (j := j) (by simpa using h)
    exact ⟨x, by simpa using e, k⟩
/-- such an iterator draws the items -/
theorem Src.draws {X : Cx} {pins : List (Addr × Obj)} {σ : L2.St} {H : Hp} {s : Shared} (hc : X.calm = true) (I : Inv X pins σ H s) {r : Src} {xs : List V} {it : Addr} {i : Nat} (hx : r.has X.K H xs) (q : r.at_ it i s.heap) (far : r.far it) :
    ∃ fp P St, Draws X.prog X.w X.A.in1 it fp xs.length P St ∧ St i s.heap ∧ it ∈ fp ∧ (∀ b, r.far b → b ≠ it → b ∉ fp) ∧ (∀ j v, P j v → ∃ x, xs[j]? = some x ∧ RelV x v) ∧ ∀ j h, St j h → r.at_ it j h := by
  cases r with
  | lst a =>
    obtain ⟨its, rv, p, _⟩ := I.list hx
    have hl := rv.length
    refine ⟨[it, a], fun i v => its.toArray[i]? = some v, fun i h => h.IsListIter it a i ∧ h.IsList a its.toArray, by rw [hl]; exact Draws.list (prog := X.prog) (w := X.w) (A := X.A.in1) (I.ok.hd hc) it a far its.toArray, (show _ ∧ _ from ⟨q, p.isList⟩), by simp, fun b fb nb => ?_, fun j v hv => ?_, fun j h st => st.1⟩
    · simp only [List.mem_cons, List.not_mem_nil, or_false]
      exact fun z => z.elim nb fun y => fb y.symm
    · exact vals_at rv (by simpa using hv)
  | tup a =>
    obtain ⟨its, rv, p, _⟩ := I.tuple hx
    have hl := rv.length
    refine ⟨[it, a], fun i v => its.toArray[i]? = some v, fun i h => h.IsTupleIter it a i ∧ h.IsTuple a its.toArray, by rw [hl]; exact Draws.tuple (prog := X.prog) (w := X.w) (A := X.A.in1) (I.ok.hd hc) it a far its.toArray, (show _ ∧ _ from ⟨q, p⟩), by simp, fun b fb nb => ?_, fun j v hv => ?_, fun j h st => st.1⟩
    · simp only [List.mem_cons, List.not_mem_nil, or_false]
      exact fun z => z.elim nb fun y => fb y.symm
    · exact vals_at rv (by simpa using hv)
  | txt x =>
    obtain ⟨t, q⟩ := q
    have hx : xs = x.cps.toList.map fun c => V.str ⟨#[c]⟩ := hx
    have hl : xs.length = x.cps.size := by rw [hx]; simp
    refine ⟨[it], _, _, by rw [hl]; exact Draws.text (prog := X.prog) (w := X.w) (A := X.A.in1) (I.ok.hd hc) it x t, q, by simp, fun b _ nb => by simpa using nb, fun j v hv => ?_, fun j h st => ⟨t, st⟩⟩
    obtain ⟨c, u, hcu, rfl⟩ := hv
    refine ⟨.str ⟨#[c]⟩, ?_, ⟨u, rfl⟩⟩
    rw [hx, List.getElem?_map]
    have : x.cps.toList[j]? = some c := by simpa using hcu
    rw [this]
    rfl
/-- its cells lie apart -/
structure Ap2 (z TI TO i1 i2 : Addr) (r1 r2 : Src) : Prop where
  a1 : TI ≠ z
  a2 : TO ≠ z
  a3 : TI ≠ TO
  a4 : TI ≠ i1
  a5 : TI ≠ i2
  a6 : z ≠ i1
  a7 : z ≠ i2
  a8 : TO ≠ i1
  a9 : TO ≠ i2
  b1 : i1 ≠ i2
  f1 : r1.far z ∧ r1.far TO ∧ r1.far i1 ∧ r1.far i2
  f2 : r2.far z ∧ r2.far TO ∧ r2.far i1 ∧ r2.far i2
/-! ### zip of three -/
structure Ap3 (z TI TO i1 i2 i3 : Addr) (r1 r2 r3 : Src) : Prop where
  a1 : TI ≠ z
  a2 : TO ≠ z
  a3 : TI ≠ TO
  t1 : TI ≠ i1
  t2 : TI ≠ i2
  t3 : TI ≠ i3
  z1 : z ≠ i1
  z2 : z ≠ i2
  z3 : z ≠ i3
  o1 : TO ≠ i1
  o2 : TO ≠ i2
  o3 : TO ≠ i3
  b12 : i1 ≠ i2
  b13 : i1 ≠ i3
  b23 : i2 ≠ i3
  f1 : r1.far z ∧ r1.far TO ∧ r1.far i1 ∧ r1.far i2 ∧ r1.far i3
  f2 : r2.far z ∧ r2.far TO ∧ r2.far i1 ∧ r2.far i2 ∧ r2.far i3
  f3 : r3.far z ∧ r3.far TO ∧ r3.far i1 ∧ r3.far i2 ∧ r3.far i3
/-! ### how they begin -/
def Src.of : Src → V → Prop
  | .lst a, v => v = .ref a
  | .tup a, v => v = .ref a
  | .txt x, v => v = .str x
end ZP

end sec_ZP
section sec_EN
set_option maxRecDepth 100000
set_option maxHeartbeats 5000000
/-! EN: enumerate of any source of ZP. -/
namespace EN
open PySem PySem.Spec PyProof.Rows L2
open ZP (Src)
theorem mem_two {a b c : Addr} (h : c ∈ [a, b]) : c = a ∨ c = b := by simpa using h
/-- the counter as enumerate makes it, its iterator at n -/
abbrev numO (n : Addr) : Obj := { cls := .type "enumerate", data := .fields #[.none, .bool false, .ref n, rawInt 0, .none, .none] }
def newSpec (o : Obj) (T : Heap → Prop) : PySem.Spec := fun _ R s => T s.heap ∧ R (.ok (.ret (.ref (s.heap.push o).objs.size))) { s with heap := (s.heap.push o).push (numO s.heap.objs.size) }
theorem new_meets {v : Value} {o : Obj} {T : Heap → Prop} (B : Begins v o T) : Meets (Builtin.«enumerate.__new__» ⟨[.type "enumerate", v], []⟩) (newSpec o T) := .of_wp fun P w A R s hs => by
  rcases s with ⟨h, g, d, k, os⟩
  rcases hs with ⟨ready, out⟩
  have sub := sub_enumerate
  have it : ∀ {B' : Around} {E : Value → Shared → Prop} {Q : Value → Shared → Prop}, Q (.ref h.objs.size) ⟨h.push o, g, d, k, os⟩ → wpAny (model P w) B' (pyIter v) Q E ⟨h, g, d, k, os⟩ := B.iter P w _ _ ⟨h, g, d, k, os⟩ _ ready
  wp_walk using it
  apply wpAny_stack_any
  intro st
  apply wpAny_pure
  split
  next c _ _ _ _ _ =>
    cases hc : (c == Value.type "enumerate") <;> (wp_walk using it) <;> exact ⟨_, rfl, out⟩
  next => (wp_walk using it) <;> exact ⟨_, rfl, out⟩
/-- what stands there behind enumerate(v) -/
structure Made (h0 h : Heap) (o : Obj) : Prop where
  num : IsEnum h (h0.objs.size + 1) h0.objs.size 0 .none
  it : h.get? h0.objs.size = some o
  old : ∀ b u, h0.get? b = some u → h.get? b = some u
theorem make {P : Program} {w : World} {A : Around} {E : Value → Shared → Prop} {s : Shared} {v : Value} {o : Obj} {T : Heap → Prop} {Q : Value → Shared → Prop} (B : Begins v o T) (ready : T s.heap)
    (go : ∀ h, Made s.heap h o → Q (.ref (s.heap.objs.size + 1)) { s with heap := h }) : wpAny (model P w) A (call (.type "enumerate") [v]) Q E s := by
  apply callType_new PySem.F.called_enumerate (by decide) (PySem.F.typeCall_enumerate_1 _) (PySem.F.newCall_enumerate_1 _) (fun u => PySem.F.args_object_init_2 u _) PySem.F.entry_enumerate_new (new_meets B)
  refine ⟨ready, ?_⟩
  have sz := Heap.size_push s.heap o
  have top := Heap.get?_push_size (s.heap.push o) (o := numO s.heap.objs.size) rfl
  simp only [sz] at top ⊢
  exact ⟨⟨_, top, rfl⟩, go _ ⟨top, Heap.get?_push_of_some _ (Heap.get?_push_size _ B.free), fun b u e => Heap.get?_push_of_some _ (Heap.get?_push_of_some _ e)⟩⟩
/-- number and item at each turn -/
def Ien (K : PySem.W.Frag) (r : Src) : It where
  go := fun i H => ∃ (xs : List V) (x : V), r.has K H xs ∧ xs[i]? = some x
  yld := fun i H v H2 => ∃ T x, v = .ref T ∧ H T = none ∧ H2 = upd H T (.tup [.int (i : Nat), x]) ∧ ∀ xs, r.has K H xs → xs[i]? = some x
  stop := fun i H => ∃ xs : List V, r.has K H xs ∧ xs.length = i
theorem turn {P : Program} {w : World} {K : PySem.W.Frag} {elts : List Expr} {kk : Nat} {tpos : Pos} {r : Src} {n it : Addr} (ne : n ≠ it) (fn : r.far n) (fi : r.far it) :
    Turn P w K (.Tuple elts kk tpos) (Ien K r) [n, it] n (fun i h => (∃ last, IsEnum h n it ((i : Nat) : Int) last) ∧ r.at_ it i h) where
  mem := List.mem_cons_self
  obj := by
    rintro i h ⟨⟨last, hn⟩, hi⟩ b hb
    rcases mem_two hb with rfl | rfl
    · exact ⟨_, hn, by intro v q; cases q⟩
    · exact Src.live hi
  keep := by
    rintro i h h2 ⟨⟨last, hn⟩, hi⟩ k
    exact ⟨⟨last, k n (by simp) _ hn⟩, Src.keep hi (k it (by simp))⟩
  item := by
    rintro X rfl rfl rfl calm i pins s σ H E I hf ⟨⟨last, hn⟩, hi⟩ ⟨xs, x, hx, at_⟩
    obtain ⟨fp, Pd, St, D, st, mem, off, val, back⟩ := Src.draws calm I hx hi fi
    have ln : n < s.heap.objs.size := Heap.lt_size hn
    apply wpAny_pyNext_enum_itemD D hn st (List.getElem?_eq_some_iff.mp at_).1 ne (off n fn ne)
    intro u h1 k pu out st1 pair _ kept
    obtain ⟨x2, at2, ru⟩ := val i u pu
    obtain rfl : x = x2 := Option.some.inj (at_.symm.trans at2)
    refine ⟨_, rfl, wpAny_letOwnedTupleGo_enum (s := { s with heap := h1, toks := k + 1 }) out fun h2 hn2 sb => ?_⟩
    have fresh := I.hok.fresh (Nat.le_refl s.heap.objs.size)
    have made : ObjOk X.prog X.w (upd H s.heap.objs.size (.tup [.int (i : Nat), x])) h2 s.heap.objs.size (.tup [.int (i : Nat), x]) :=
      ⟨(by decide : 2 ≤ sizeLine), [.int i k, u], .cons ⟨k, rfl⟩ (.cons ru .nil), ⟨_, (sb.2 _ (Nat.ne_of_gt ln)).trans pair, rfl, _, rfl⟩⟩
    have I2 := I.turnedNew (ch := [n, it]) (t' := k + 1) (fun b o nb e => by
      have nb : b ≠ n ∧ b ≠ it := by simpa using nb
      exact (sb.2 b nb.1).trans (kept b o nb.1 nb.2 e)) hf (Nat.le_refl _) made
    refine ⟨.ref s.heap.objs.size, _, I2, rfl, ⟨_, x, rfl, fresh, rfl, ?_⟩, ⟨⟨u, hn2⟩, Src.keep (back _ _ st1) fun o e => (sb.2 it (Ne.symm ne)).trans e⟩, ?_⟩
    · intro ys hy
      rw [Src.inj I hy hx]
      exact at_
    · intro b hb
      have lb : b < s.heap.objs.size := by
        rcases mem_two hb with rfl | rfl
        · exact ln
        · obtain ⟨_, e, _⟩ := Src.live hi
          exact Heap.lt_size e
      exact (upd_ne (Nat.ne_of_lt lb)).trans (hf b hb).1
  done := by
    rintro X rfl rfl rfl calm i pins s σ H E I hf ⟨⟨last, hn⟩, hi⟩ ⟨xs, hx, rfl⟩
    obtain ⟨fp, Pd, St, D, st, _⟩ := Src.draws calm I hx hi fi
    apply wpAny_pyNext_enum_endD D hn st
    intro h1 ext
    exact ⟨rfl, I.turnedL (t' := s.toks) (ch := [n, it]) (fun b o nb e => ext b o (by intro z; exact nb (by simp [z])) e) hf⟩
  self := by
    rintro A i s Q E ⟨⟨_, hn⟩, _⟩ go
    exact wpAny_pyIter_enum hn go
end EN

end sec_EN
section sec_FD11
set_option maxRecDepth 100000
set_option maxHeartbeats 5000000
/-! FD11: built-in functions, slices, own ==, lists that a slot owns, enumerate, displays. -/
namespace FD
open PySem L2
variable [Tabl]
section
variable {X : Cx}
/-! ### built-in functions -/
def lenD : List D → Option RV
  | [.lst xs] => some (.sh (.int xs.length))
  | [.tup xs] => some (.sh (.int xs.length))
  | [.ktup xs] => some (.sh (.int xs.length))
  | [.str z] => if z.length ≤ 1000000 then some (.sh (.int z.length)) else none
  | [.scr ns] => some (.sh (.int ns.length))
  | _ => none
theorem AllP.one {c : Ct} {da : Option Addr} {O : List Addr} {H : Hp} {vs : List V} {d : D} (h : AllP c da O H vs [d]) : ∃ v, vs = [v] ∧ RepP c da O H v d := by
  cases h with
  | cons a b =>
    cases b
    exact ⟨_, rfl, a⟩
theorem AllP.two {c : Ct} {da : Option Addr} {O : List Addr} {H : Hp} {vs : List V} {d e : D} (h : AllP c da O H vs [d, e]) : ∃ v u, vs = [v, u] ∧ RepP c da O H v d ∧ RepP c da O H u e := by
  cases h with
  | cons a b =>
    obtain ⟨u, rfl, q⟩ := b.one
    exact ⟨_, _, rfl, a, q⟩
theorem bD_len : CallR X (.builtin "len") (rPure (ct X) lenD) := by
  intro pins s σ H xs us Q I r h
  obtain ⟨da, O, ds, rv, hO, p, eg, q⟩ := h
  unfold lenD at eg
  split at eg
  · cases eg
    obtain ⟨v, rfl, P⟩ := p.one
    obtain ⟨a, ys, rfl, ea, ra⟩ := P.lst
    have z := ra.length
    exact call_len_seq pins s σ H _ us Q I r ⟨a, ys, rfl, .inl (.inl (.inl ea)), q _ _ (Ex.refl _) (by rw [z]; exact .int _)⟩
  · cases eg
    obtain ⟨v, rfl, P⟩ := p.one
    obtain ⟨a, ys, rfl, ea, ra, _⟩ := P.tup
    have z := ra.length
    exact call_len_seq pins s σ H _ us Q I r ⟨a, ys, rfl, .inr ea, q _ _ (Ex.refl _) (by rw [z]; exact .int _)⟩
  · cases eg
    obtain ⟨v, rfl, P⟩ := p.one
    obtain ⟨a, ys, rfl, ea, ra, _⟩ := P.ktup
    have z := ra.length
    exact call_len_seq pins s σ H _ us Q I r ⟨a, ys, rfl, .inr ea, q _ _ (Ex.refl _) (by rw [z]; exact .int _)⟩
  · split at eg
    · rename_i hz
      cases eg
      obtain ⟨v, rfl, P⟩ := p.one
      obtain rfl := P.str
      exact call_len_str pins s σ H _ us Q I r ⟨_, rfl, small_fits hz, q _ _ (Ex.refl _) (.int _)⟩
    · cases eg
  · cases eg
    obtain ⟨v, rfl, P⟩ := p.one
    obtain ⟨a, rfl, ea⟩ := P.scr
    exact call_len_seq pins s σ H _ us Q I r ⟨a, _, rfl, .inl ea, q _ _ (Ex.refl _) (by rw [List.length_map]; exact .int _)⟩
  · cases eg
def minD : List D → Option RV
  | [.int i, .int j] => some (.sh (.int (if j < i then j else i)))
  | _ => none
theorem bD_min (hc : X.calm = true) : CallR X (.builtin "min") (rPure (ct X) minD) := by
  intro pins s σ H xs us Q I r h
  obtain ⟨da, O, ds, rv, hO, p, eg, q⟩ := h
  unfold minD at eg
  split at eg
  · cases eg
    obtain ⟨v, u, rfl, p1, p2⟩ := p.two
    obtain rfl := p1.int
    obtain rfl := p2.int
    exact call_min2 hc pins s σ H _ us Q I r ⟨_, _, rfl, q _ _ (Ex.refl _) (.int _)⟩
  · cases eg
def intFD : List D → Option RV
  | [.int i] => some (.sh (.int i))
  | [.bl b] => some (.sh (.int (if b then 1 else 0)))
  | _ => none
theorem bD_int : CallR X (.type "int") (rPure (ct X) intFD) := by
  intro pins s σ H xs us Q I r h
  obtain ⟨da, O, ds, rv, hO, p, eg, q⟩ := h
  unfold intFD at eg
  split at eg
  · cases eg
    obtain ⟨v, rfl, P⟩ := p.one
    obtain rfl := P.int
    exact call_int1 pins s σ H _ us Q I r (.inl ⟨_, rfl, q _ _ (Ex.refl _) (.int _)⟩)
  · cases eg
    obtain ⟨v, rfl, P⟩ := p.one
    obtain rfl := P.bl
    exact call_int1 pins s σ H _ us Q I r (.inr ⟨_, rfl, q _ _ (Ex.refl _) (.int _)⟩)
  · cases eg
def tupD : List D → Option RV
  | [.lst xs] => some (.sh (.tup xs))
  | [.tup xs] => some (.sh (.tup xs))
  | [.ktup xs] => some (.sh (.ktup xs))
  | _ => none
theorem bD_tup : CallR X (.type "tuple") (rPure (ct X) tupD) := by
  intro pins s σ H xs us Q I r h
  obtain ⟨da, O, ds, rv, hO, p, eg, q⟩ := h
  unfold tupD at eg
  split at eg
  · cases eg
    obtain ⟨v, rfl, P⟩ := p.one
    obtain ⟨a, ys, rfl, ea, ra⟩ := P.lst
    exact call_tuple_of pins s σ H _ us Q I r ⟨a, ys, rfl, .inl ⟨.inl (.inl ea), fun l nl => q _ _ (Ex.new nl) (repN_tup nl hO ra)⟩⟩
  · cases eg
    obtain ⟨v, rfl, P⟩ := p.one
    obtain ⟨a, ys, rfl, ea, ra, R⟩ := P.tup
    exact call_tuple_of pins s σ H _ us Q I r ⟨a, ys, rfl, .inr ⟨ea, q _ _ (Ex.refl _) R⟩⟩
  · cases eg
    obtain ⟨v, rfl, P⟩ := p.one
    obtain ⟨a, ys, rfl, ea, ra, R⟩ := P.ktup
    exact call_tuple_of pins s σ H _ us Q I r ⟨a, ys, rfl, .inr ⟨ea, q _ _ (Ex.refl _) R⟩⟩
  · cases eg
/-! ### repr -/
/-! ### ''.join -/
end
end FD

end sec_FD11
section sec_FD12
set_option maxRecDepth 100000
set_option maxHeartbeats 5000000
/-! FD12: slices, comparisons, lists that a slot owns, enumerate, displays, sorted by a lambda. -/
namespace FD
open PySem L2
variable [Tabl]

/-! ### slices -/
def cutL {α : Type} (xs : List α) (lo hi : Option Int) : List α := (xs.drop (HT.sIx xs.length 0 lo)).take (HT.sIx xs.length xs.length hi - HT.sIx xs.length 0 lo)
def slD : D → Option Int → Option Int → Option RV
  | .lst xs, lo, hi => some (.fr (.lst (cutL xs lo hi)))
  | .tup xs, lo, hi => some (.sh (.tup (cutL xs lo hi)))
  | .ktup xs, lo, hi => some (.sh (.ktup (cutL xs lo hi)))
  | .str z, lo, hi => if z.length ≤ 1000000 then some (.sh (.str (cutS z lo hi))) else none
  | _, _, _ => none
theorem RepAll.cut {c : Ct} {da : Option Addr} {G : Hp} {vs : List V} {ds : List D} (r : RepAll c da G vs ds) (lo hi : Option Int) : RepAll c da G (cutV vs lo hi) (cutL ds lo hi) := by
  unfold cutV cutL
  rw [r.length]
  exact (r.drop _).take _
section
variable {X : Cx} {a b e o : Expr} {es : List Expr} {pos p p2 apos cpos : Pos} {x m f cn : Str} {k j n i : Nat} {dd : List D} {fa fb fo fe fe' : M RV}
def tO (c : Ct) (F : Fm) (f : M (Option Int)) : TO := fun σ H Q => ∃ O ρ w b ρ' w', SR c F O ρ w σ H ∧ f ρ w = some (b, ρ', w') ∧ ∀ O' H', SR c F O' ρ' w' σ H' → Ex (vis O H) (vis O' H') → Q b H'
def FO (X : Cx) (e : Option Expr) (f : M (Option Int)) : Prop := ∀ F, PO X e (tO (ct X) F f)
theorem PO.wk {e : Option Expr} {t t' : TO} (h : PO X e t) (k : ∀ σ H Q, t' σ H Q → t σ H Q) : PO X e t' := ⟨fun pins s σ H Q I q => h.run pins s σ H Q I (k σ H Q q)⟩
def asI : RV → Option Int
  | .sh (.int i) => some i
  | _ => none
def partM (f : M RV) : M (Option Int) := bindM f fun r => fun ρ w => match asI r with
  | some i => some (some i, ρ, w)
  | none => none
def slM (fa : M RV) (fl fh : M (Option Int)) : M RV := bindM fa fun r1 => bindM fl fun lo => bindM fh fun hi => lift1 (fun d => slD d lo hi) r1
/-! ### comparisons, as values and as tests -/
structure FC (X : Cx) (op : CmpOp) (a b : Expr) (pos : Pos) (f : M RV) : Prop where
  fe : FE X (.Compare a [op] [b] pos) f
  ft : FT X (.Compare a [op] [b] pos) (boolM f)
theorem fc_data {op : CmpOp} {g : D → D → Option RV} (ho : OpR X (compareOp op) (rP2 (ct X) g)) (ha : FE X a fa) (hb : FE X b fb) (hm : behindInMarks op b = false) : FC X op a b pos (op2M g fa fb) := ⟨fe_cmp ho ha hb hm, ft_cmp ho ha hb hm⟩
def eqOM (cn : Str) (ic : List (Str × Bool)) (den : List D → W → Option (RV × W)) (ne : Bool) (fa fb : M RV) : M RV := bindM fa fun r1 => bindM fb fun r2 => bindM (escAll [r1, r2]) fun ds => match ds with
  | [.ins c' gs, d2] => if c' = cn ∧ isiD (fun _ => true) ic d2 = some true then bindM (runD den [.ins c' gs, d2]) fun r => match r with
    | .sh (.bl b) => pureM (.sh (.bl (if ne then !b else b)))
    | _ => failM
    else failM
  | _ => failM
end

/-! ### lists that a slot owns -/
section
variable {c : Ct} {F : Fm} {O : List Addr} {ρ : Env} {w : W} {σ : L2.St} {H : Hp}
theorem SR.pokeOwn {i : Nat} {d d' : D} {a : Addr} {o' : HO} (S : SR c F O ρ w σ H) (h : ρ[i]? = some (some (Slot.own d))) (hs : σ[i]? = some (some (V.ref a))) (ob : Obj c F.dr.da (vis O H) o' d') :
    SR c F O (ρ.set i (some (.own d'))) w σ (upd H a o') ∧ vis O (upd H a o') = vis O H := by
  obtain ⟨a', o, h1, h2, h3, h4, h5⟩ := S.own i d h
  rw [hs] at h1
  cases h1
  have nx : ∀ φ, o ≠ .ext φ := fun φ z => by
    rcases h5 with ⟨_, _, e, _⟩ | ⟨_, _, e, _⟩ | ⟨_, _, e, _⟩ | ⟨_, _, _, _, _, e, _⟩ <;> (rw [z] at e; cases e)
  have v : vis O (upd H a o') = vis O H := vis_upd h2
  have nd : ∀ b ∈ F.dr.as, b ≠ a := fun b hb z => h3 (z ▸ S.drs b hb)
  refine ⟨⟨by rw [List.length_set]; exact S.len, fun b u q n => ?_, S.new, S.sub, S.drs, fun b q => ?_, ?_, fun j e q => ?_, fun j e q => ?_, fun j j' e e' b q q' => ?_⟩, v⟩
  · rw [upd_ne fun z => ?_]
    · exact S.base b u q n
    · rw [z, S.new a h2 h3] at q
      cases q
  · by_cases z : b = a
    · rw [z]
      exact ⟨o', upd_same, ob.nt⟩
    · rw [upd_ne z]
      exact S.trk b q
  · exact ⟨fun t q => let ⟨q1, q2, q3, q4⟩ := S.draw.1 t q; ⟨by rw [upd_ne (nd _ (Dr.mem1 q))]; exact q1, by rw [upd_ne (nd _ (Dr.mem2 q))]; exact q2, by rw [upd_ne (nd _ (Dr.mem3 q))]; exact q3, q4⟩, tabs_upd S.draw.2 (fun p hp => nd p.1 (Dr.tab hp)) h4 nx⟩
  · rw [v]
    rcases getElem?_set_some q with ⟨_, z⟩ | ⟨_, q⟩
    · cases z
    · exact S.val j e q
  · rw [v]
    rcases getElem?_set_some q with ⟨rfl, z⟩ | ⟨ne, q⟩
    · cases z
      exact ⟨a, o', hs, h2, h3, upd_same, ob⟩
    · obtain ⟨b, u, q1, q2, q3, q4, q5⟩ := S.own j e q
      refine ⟨b, u, q1, q2, q3, ?_, q5⟩
      rw [upd_ne fun z => ?_]
      · exact q4
      · rw [z] at q1
        exact ne (S.uni i j d e a h q hs q1)
  · have back : ∀ {j : Nat} {e : D}, (ρ.set i (some (.own d')))[j]? = some (some (Slot.own e)) → ∃ e0, ρ[j]? = some (some (Slot.own e0)) := fun {j e} q => by
      rcases getElem?_set_some q with ⟨rfl, z⟩ | ⟨_, q⟩
      · exact ⟨d, h⟩
      · exact ⟨e, q⟩
    obtain ⟨e0, q0⟩ := back q
    obtain ⟨e1, q1⟩ := back q'
    exact fun a1 a2 => S.uni j j' e0 e1 b q0 q1 a1 a2
end
def ownL (ρ : Env) (i : Nat) : Option (List D) := match ρ[i]? with
  | some (some (.own (.lst ds))) => some ds
  | _ => none
theorem ownL_some {ρ : Env} {i : Nat} {ds : List D} (h : ownL ρ i = some ds) : ρ[i]? = some (some (.own (.lst ds))) := by
  unfold ownL at h
  split at h
  · rename_i e
    cases h
    exact e
  · cases h
def appM (i : Nat) (fe : M RV) : M RV := fun ρ w => match ownL ρ i with
  | none => none
  | some _ => bindM fe (fun r => bindM (escR r) fun d => fun ρ1 w1 => match ownL ρ1 i with
    | some ds => if ds.length < 1000000 then some (.sh .non, ρ1.set i (some (.own (.lst (ds ++ [d])))), w1) else none
    | none => none) ρ w
section
variable {X : Cx} {e : Expr} {pos p apos cpos : Pos} {x : Str} {i : Nat} {fe : M RV}
theorem own_obj {c : Ct} {F : Fm} {O : List Addr} {ρ : Env} {w : W} {σ : L2.St} {H : Hp} {ds : List D} (S : SR c F O ρ w σ H) (h : ownL ρ i = some ds) : ∃ a xs, σ[i]? = some (some (V.ref a)) ∧ H a = some (.lst xs) ∧ RepAll c F.dr.da (vis O H) xs ds := by
  obtain ⟨a, o, h1, _, _, h4, h5⟩ := S.own i _ (ownL_some h)
  rcases h5 with ⟨xs, es, rfl, e2, r⟩ | ⟨_, _, _, e2, _⟩ | ⟨_, _, _, e2, _⟩ | ⟨_, _, _, _, _, _, e2, _⟩
  · cases e2
    exact ⟨a, xs, h1, h4, r⟩
  · cases e2
  · cases e2
  · cases e2
/-- x.append(e) -/
theorem fe_append (hv : PE X (.Name x p) (tVar i)) (he : FE X e fe) (hbase : attributeBase (.Name x p) "append" X.env (eval (.Name x p) X.env) = eval (.Name x p) X.env := by rfl)
    (hfew : ((backTo cpos (starEach [e] X.env)).all (fun x => !x.1) && (backToKw cpos (keywordEach [] X.env)).all (fun x => x.1.isSome) && decide ([e].length + ([] : List Keyword).length + (if ([] : List Keyword).isEmpty then 0 else 1) < 30)) = true := by rfl)
    (hline : (apos.endLine == cpos.line) = true := by rfl) (hs : starEach [e] X.env = (false, eval e X.env) :: starEach [] X.env := by rfl) : FE X (.Call (.Attribute (.Name x p) "append" apos) [e] [] cpos) (appM i fe) := fun F =>
  PE.wk (pe_bm PySem.F.plainAttrs_list PySem.F.slot_list_append PySem.F.type_list_append mt_append hv (pa_cons (he F) pa_nil hs) hbase hfew hline hs) fun σ H Q h => by
    obtain ⟨O, ρ, w, r, ρ', w', S, e, k⟩ := h
    unfold appM at e
    split at e
    · cases e
    · rename_i ds0 e0
      obtain ⟨a, xs, h1, h2, r1⟩ := own_obj S e0
      refine ⟨_, h1, .inl ⟨rfl, xs, .inl (.inl h2)⟩, ?_⟩
      refine tE_then S e fun v O1 ρ1 w1 H1 rv S1 e1 R1 h3 => ?_
      obtain ⟨d, ρ2, w2, h4, h5⟩ := bindM_some h3
      obtain ⟨rfl, O2, S2, k2, r2⟩ := escR_ok S1 R1.hold h4
      split at h5
      · rename_i ds e5
        split at h5
        · rename_i hl
          cases h5
          obtain ⟨a', ys, q1, q2, q3⟩ := own_obj S2 e5
          rw [h1] at q1
          cases q1
          refine ⟨a, ys, v, rfl, rfl, q2, by rw [q3.length]; exact Nat.lt_of_lt_of_le hl (by decide), ?_⟩
          obtain ⟨S3, v3⟩ := S2.pokeOwn (ownL_some e5) h1 (.inl ⟨ys ++ [v], ds ++ [d], rfl, rfl, q3.snoc r2⟩)
          exact k _ O2 _ S3 (by rw [v3]; exact e1.trans k2) .non
        · cases h5
      · cases h5
end
end FD

end sec_FD12
section sec_FD13
set_option maxRecDepth 100000
set_option maxHeartbeats 5000000
/-! FD13: enumerate, sorted by a lambda, displays of dicts. -/
namespace FD
open PySem L2
variable [Tabl]
def numD : Nat → List D → List D
  | _, [] => []
  | n, d :: r => .tup [.int n, d] :: numD (n + 1) r
section
variable {c : Ct} {dr : Dr} {da : Option Addr} {G : Hp}
end
def seqD : D → Option (List D)
  | .lst ds => some ds
  | .tup ds => some ds
  | .ktup ds => some ds
  | _ => none
def enumM (fe : M RV) : M (List D) := bindM fe fun r => bindM (escR r) fun d => fun ρ w => match seqD d with
  | some ds => some (numD 0 ds, ρ, w)
  | none => none
section
variable {X : Cx} {e : Expr} {elts : List Expr} {pos p tpos lpos kpos p1 p2 p3 p4 p5 : Pos} {kk i1 k : Nat} {fe : M RV}
/-! ### sorted(e, key=lambda y: (len(y), y)) -/
/-! ### displays of dicts -/
theorem fe_dic0 : FE X (.Dict [] [] pos) (pureM (.fr (.dic []))) := fun F => PE.wk pe_dnewK fun σ H Q h => by
  obtain ⟨O, ρ, w, r, ρ', w', S, e, k⟩ := h
  cases e
  intro p np
  have x2 : Ex H (upd H p (.dK [])) := Ex.new np
  obtain ⟨S3, n3, k3⟩ := S.hide np x2 upd_same
  exact k _ O _ (S.grow x2) (vis_mono x2) ⟨p, _, rfl, n3, S3, upd_same, .inr (.inl ⟨[], [], rfl, rfl, .nil⟩), k3⟩
end
end FD

end sec_FD13
section sec_FD14
set_option maxRecDepth 100000
set_option maxHeartbeats 5000000
/-! FD14: the draws. -/
namespace FD
open PySem L2
variable [Tabl]
section
variable {c : Ct} {F : Fm} {O : List Addr} {ρ : Env} {w w' : W} {σ : L2.St} {H : Hp} {v : V}
def drK (a b : Addr) (w : W) : List (Key × V) := [(.inr "wide", .ref a), (.inr "cells", .ref b), (.inr "rest", .int w.rest), (.inr "turn", .int w.turn)]
theorem draw_of {G : Hp} (S : SR c F O ρ w σ H) (R : Rep c F.dr.da G v .draw) : ∃ t, F.dr.at_ = some t ∧ v = .ref t.1 ∧ H t.1 = some (.dK (drK t.2.1 t.2.2 w)) ∧
    H t.2.1 = some (.lst (w.wide.map V.int)) ∧ H t.2.2 = some (.lst (w.cells.map V.int)) ∧ t.2.1 ≠ t.2.2 ∧ w.cells = F.dr.cl := by
  cases R with
  | draw h =>
    unfold Dr.da at h
    cases e : F.dr.at_ with
    | none =>
      rw [e] at h
      cases h
    | some t =>
      rw [e] at h
      cases h
      exact ⟨t, rfl, rfl, S.draw.1 t e⟩
end
def drI (f : W → Int) (fo : M RV) : M RV := bindM fo fun r => fun ρ w => match r with
  | .sh .draw => some (.sh (.int (f w)), ρ, w)
  | _ => none
def drT (f : W → Bool) (fo : M RV) : M Bool := bindM fo fun r => fun ρ w => match r with
  | .sh .draw => some (f w, ρ, w)
  | _ => none
def drPop (fo : M RV) : M RV := bindM fo fun r => fun ρ w => match r with
  | .sh .draw => (match w.wide with
    | x :: xs => if xs.length < 1000000 then some (.sh (.int x), ρ, { w with wide := xs }) else none
    | [] => none)
  | _ => none
def drC (fo : M RV) : M (List D) := bindM fo fun r => fun ρ w => match r with
  | .sh .draw => some (w.cells.map D.int, ρ, w)
  | _ => none
def drSet (f : W → Int → W) (fv fo : M RV) : M Fl := bindM fv fun r1 => bindM fo fun r => fun ρ w => match r1, r with
  | .sh (.int i), .sh .draw => some (.nx, ρ, f w i)
  | _, _ => none
section
variable {X : Cx} {o e : Expr} {pos p pos' apos cpos : Pos} {j1 j2 k : Nat} {fo fe : M RV} {tg : Expr}
theorem fe_drI {key : Str} {f : W → Int} (hr : Room k X.A) (ho : FE X o fo) (hv : ∀ a b w, valV (drK a b w) (.inr key) = some (.int (f w)))
    (hs : NoSl (.Constant (.str key) j1 p) := by intro _ _; rfl) : FE X (.Subscript o (.Constant (.str key) j1 p) pos) (drI f fo) := fun F => PE.wk (pe_dget (hu_of hr) (ho F) pe_str hs) fun σ H Q q => by
  obtain ⟨O, ρ, w, r, ρ', w', S, e, kq⟩ := q
  refine tE_then S e fun x O1 ρ1 w1 H1 r1 S1 e1 R1 h1 => ?_
  split at h1
  · cases h1
    obtain ⟨t, _, rfl, q1, _⟩ := draw_of S1 R1
    refine ⟨t.1, .int (f w'), rfl, ?_, kq _ O1 H1 S1 e1 (.int _)⟩
    rw [← hv t.2.1 t.2.2 w']
    exact DGet.k (k := .inr key) q1
  · cases h1
theorem pe_drL {key : Str} {F : Fm} (hr : Room k X.A) (ho : FE X o fo) (hs : NoSl (.Constant (.str key) j1 p) := by intro _ _; rfl) : PE X (.Subscript o (.Constant (.str key) j1 p) pos) (tDGet (tE (ct X) F fo) (tC (.str key))) := pe_dget (hu_of hr) (ho F) pe_str hs
/-- d['wide'] != [] -/
theorem ft_drWide (hr : Room k X.A) (ho : FE X o fo) (hs : NoSl (.Constant (.str "wide") j1 p) := by intro _ _; rfl) : FT X (.Compare (.Subscript o (.Constant (.str "wide") j1 p) pos') [.NotEq] [.List [] apos] pos) (drT (fun w => !w.wide.isEmpty) fo) := fun F =>
  PT.wk (pt_cmpR (op_neD hr.units) (pe_drL hr ho hs) (pe_lst pa_nil) rfl) fun σ H Q q => by
  obtain ⟨O, ρ, w, r, ρ', w', S, e, kq⟩ := q
  refine tE_then S e fun x O1 ρ1 w1 H1 r1 S1 e1 R1 h1 => ?_
  split at h1
  · cases h1
    obtain ⟨t, _, rfl, q1, q2, _⟩ := draw_of S1 R1
    refine ⟨t.1, .ref t.2.1, rfl, DGet.k (k := .inr "wide") q1, small_fits (Nat.zero_le _), fun p np => ?_⟩
    have x2 : Ex H1 (upd H1 p (.lst [])) := Ex.new np
    have dp : ∀ ns : List Int, DpAll X.K (upd H1 p (.lst [])) (ns.map V.int) (ns.map PyData.int) := fun ns => by
      induction ns with
      | nil => exact .nil
      | cons n ns ih => exact .cons (.int n) ih
    have sh : ∀ ns : List Int, SeqAt.shaped (.list (ns.map PyData.int)) = true := fun ns => by
      have h1 : ∀ ns : List Int, PyData.canLayAll0 (ns.map PyData.int) = true := fun ns => by
        induction ns with
        | nil => rfl
        | cons n ns ih => simpa [PyData.canLayAll0, PyData.canLay0] using ih
      have h2 : ∀ ns : List Int, PyData.depthAll (ns.map PyData.int) = 0 := fun ns => by
        induction ns with
        | nil => rfl
        | cons n ns ih => simp [PyData.depthAll, PyData.depth, ih]
      unfold SeqAt.shaped
      simp [PyData.canLay0, h1, PyData.depth, h2]
    refine ⟨.list (w'.wide.map PyData.int), .list [], .lst (.inl (.inl (x2 _ _ q2))) (dp _), .lst (.inl (.inl upd_same)) .nil, sh _, sh [], _, rfl, ?_⟩
    have eb : (!PyData.eqv (.list (w'.wide.map PyData.int)) (.list [])) = !w'.wide.isEmpty := by
      cases w'.wide with
      | nil => rfl
      | cons n ns => rfl
    rw [eb]
    exact kq O1 _ (S1.grow x2) (e1.trans (vis_mono x2))
  · cases h1
/-- d['wide'].pop(0) -/
theorem fe_drPop (hr : Room k X.A) (ho : FE X o fo) (hs : NoSl (.Constant (.str "wide") j1 p) := by intro _ _; rfl)
    (hbase : attributeBase (.Subscript o (.Constant (.str "wide") j1 p) pos) "pop" X.env (eval (.Subscript o (.Constant (.str "wide") j1 p) pos) X.env) = eval (.Subscript o (.Constant (.str "wide") j1 p) pos) X.env := by rfl)
    (hfew : ((backTo cpos (starEach [.Constant (.int 0) j2 pos'] X.env)).all (fun x => !x.1) && (backToKw cpos (keywordEach [] X.env)).all (fun x => x.1.isSome) && decide ([Expr.Constant (.int 0) j2 pos'].length + ([] : List Keyword).length + (if ([] : List Keyword).isEmpty then 0 else 1) < 30)) = true := by rfl)
    (hline : (apos.endLine == cpos.line) = true := by rfl) (hst : starEach [.Constant (.int 0) j2 pos'] X.env = (false, eval (.Constant (.int 0) j2 pos') X.env) :: starEach [] X.env := by rfl) :
    FE X (.Call (.Attribute (.Subscript o (.Constant (.str "wide") j1 p) pos) "pop" apos) [.Constant (.int 0) j2 pos'] [] cpos) (drPop fo) := fun F =>
  PE.wk (pe_bm PySem.F.plainAttrs_list PySem.F.slot_list_pop PySem.F.type_list_pop mt_popAt (pe_drL hr ho hs) (pa_cons pe_int pa_nil hst) hbase hfew hline hst) fun σ H Q q => by
  obtain ⟨O, ρ, w, r, ρ', w', S, e, kq⟩ := q
  refine tE_then S e fun x O1 ρ1 w1 H1 r1 S1 e1 R1 h1 => ?_
  split at h1
  · split at h1
    · rename_i n ns ew
      split at h1
      · rename_i hl
        cases h1
        obtain ⟨t, et, rfl, q1, q2, q3, q4⟩ := draw_of S1 R1
        rw [ew] at q2
        refine ⟨t.1, .ref t.2.1, rfl, DGet.k (k := .inr "wide") q1, .inl ⟨rfl, _, .inl (.inl q2)⟩, t.2.1, (n :: ns).map V.int, 0, 0, .int n, rfl, rfl, q2, by decide, by decide, seqIndex_of (by decide) (by simp <;> omega), rfl, ?_⟩
        have n1 : t.1 ≠ t.2.1 := fun z => by
          rw [z, q2] at q1
          cases q1
        have kp : Kp F.dr H1 (upd H1 t.2.1 (.lst (((n :: ns).map V.int).eraseIdx 0))) := fun b u hb nb => by
          have z : b ≠ t.2.1 := fun z => nb (by rw [z]; exact Dr.mem2 et)
          rw [upd_ne z]
          exact hb
        have dw : DrawAt F.dr { w1 with wide := ns } (upd H1 t.2.1 (.lst (((n :: ns).map V.int).eraseIdx 0))) := by
          refine ⟨fun t' e' => ?_, tabs_upd S1.draw.2 (fun p hp z => ?_) q2 (fun _ z => nomatch z)⟩
          · rw [et] at e'
            cases e'
            exact ⟨by rw [upd_ne n1]; exact q1, by rw [upd_same]; rfl, by rw [upd_ne (Ne.symm q4.1)]; exact q3, q4⟩
          · obtain ⟨ps, hp', _⟩ := S1.draw.2 p hp
            rw [z, q2] at hp'
            cases hp'
        exact kq _ O1 _ (S1.kept kp dw) (e1.trans (vis_kp S1.drO kp)) (.int _)
      · cases h1
    · cases h1
  · cases h1
/-- for .. in d['cells'] -/
theorem fi_drC (hr : Room k X.A) (ho : FE X o fo) (hs : NoSl (.Constant (.str "cells") j1 p) := by intro _ _; rfl) : FI X tg (.Subscript o (.Constant (.str "cells") j1 p) pos) (drC fo) := fun F => ⟨fun pins s σ H R I q => by
  obtain ⟨O, ρ, w, ds, ρ', w', S, e, kq⟩ := q
  refine (pi_list (pe_drL (F := F) hr ho hs)).run pins s σ H R I ?_
  refine tE_then S e fun x O1 ρ1 w1 H1 r1 S1 e1 R1 h1 => ?_
  split at h1
  · cases h1
    obtain ⟨t, et, rfl, q1, q2, q3, q4, q5⟩ := draw_of S1 R1
    refine ⟨t.1, .ref t.2.2, rfl, DGet.k (k := .inr "cells") q1, t.2.2, rfl, ⟨_, .inl (.inl q3)⟩, kq _ O1 H1 S1 e1 fun i O H e tr hc => ?_⟩
    have s' : SqL X.K H t.2.2 (w'.cells.map V.int) := .inl (.inl (by rw [q5]; exact hc t et))
    refine ⟨fun d h => ?_, fun h => ⟨_, s', by simpa using Nat.le_of_eq h⟩⟩
    rw [List.getElem?_map] at h
    cases q : w'.cells[i]? with
    | none =>
      rw [q] at h
      cases h
    | some n =>
      rw [q] at h
      cases h
      have hv : (w'.cells.map V.int)[i]? = some (.int n) := by rw [List.getElem?_map, q]; rfl
      refine ⟨⟨_, .int n, s', hv⟩, fun x H' y => ?_⟩
      obtain ⟨rfl, y⟩ := y
      have z := y _ s'
      rw [hv] at z
      cases z
      exact ⟨Ex.refl _, .int _⟩
  · cases h1⟩
/-- d[key] = e -/
theorem fs_drSet {key : Str} {f : W → Int → W} (hr : Room k X.A) (ho : FE X o fo) (he : FE X e fe)
    (hf : ∀ a b w i, putK (drK a b w) (.inr key) (V.int i) = drK a b (f w i) ∧ (f w i).wide = w.wide ∧ (f w i).cells = w.cells)
    (hs : swapsWith e (some (.Subscript o (.Constant (.str key) j1 p) pos')) pos.line X.env = pure false := by rfl) : FS X (.Assign [.Subscript o (.Constant (.str key) j1 p) pos'] e pos) (drSet f fe fo) := fun F =>
  PS.wk (ps_dput (hu_of hr) (ho F) pe_str (he F) hs) fun E σ H q => by
  obtain ⟨O, ρ, w, fl, ρ', w', S, e, kq⟩ := q
  refine tE_then S e fun v O1 ρ1 w1 H1 r1 S1 e1 R1 h1 => ?_
  refine tE_then S1 h1 fun x O2 ρ2 w2 H2 r2 S2 e2 R2 h2 => ?_
  split at h2
  · rename_i i
    cases h2
    cases R1
    obtain ⟨t, et, rfl, q1, q2, q3, q4⟩ := draw_of S2 R2
    obtain ⟨f1, f2, f3⟩ := hf t.2.1 t.2.2 w2 i
    refine ⟨t.1, _, rfl, DPut.k (k := .inr key) q1 (show 4 < sizeLine by decide), ?_⟩
    rw [f1]
    have n1 : t.2.1 ≠ t.1 := fun z => by
      rw [z, q1] at q2
      cases q2
    have n2 : t.2.2 ≠ t.1 := fun z => by
      rw [z, q1] at q3
      cases q3
    have kp : Kp F.dr H2 (upd H2 t.1 (.dK (drK t.2.1 t.2.2 (f w2 i)))) := fun b u hb nb => by
      have z : b ≠ t.1 := fun z => nb (by rw [z]; exact Dr.mem1 et)
      rw [upd_ne z]
      exact hb
    have dw : DrawAt F.dr (f w2 i) (upd H2 t.1 (.dK (drK t.2.1 t.2.2 (f w2 i)))) := by
      refine ⟨fun t' e' => ?_, tabs_upd S2.draw.2 (fun p hp z => ?_) q1 (fun _ z => nomatch z)⟩
      · rw [et] at e'
        cases e'
        exact ⟨upd_same, by rw [upd_ne n1, f2]; exact q2, by rw [upd_ne n2, f3]; exact q3, q4.1, by rw [f3]; exact q4.2⟩
      · obtain ⟨ps, hp', _⟩ := S2.draw.2 p hp
        rw [z, q1] at hp'
        cases hp'
    exact kq _ O2 _ (S2.kept kp dw) ((e1.trans e2).trans (vis_kp S2.drO kp))
  · cases h2
end
end FD

end sec_FD14
section sec_FD15
set_option maxRecDepth 100000
set_option maxHeartbeats 5000000
/-! FD15: more of arithmetic; the def that begins the draws; the law. -/
namespace FD
open PySem L2
variable [Tabl]
open PyProof.Rows (envOfC)
section
variable {X : Cx}
def powI (i j : Int) : Option RV := if 0 ≤ j ∧ j ≤ 1000000 ∧ i.natAbs < 2 ^ 64 then some (.sh (.int (i ^ j.toNat))) else none
theorem opD_pow : OpR X (binaryOp .Pow) (rP2 (ct X) (intD powI)) := opD_int op_pow fun i j r e => by
  unfold powI at e
  split at e
  · rename_i h
    cases e
    exact ⟨h, _, rfl, fun _ _ _ => .int _⟩
  · cases e
def negD : D → Option RV
  | .int i => some (.sh (.int (-i)))
  | _ => none
theorem unD_neg : UnR X (unaryOp .USub) (rP1 (ct X) negD) := by
  intro pins s σ H x v Q I rx h
  obtain ⟨da, O, d1, r, hO, P, eg, q⟩ := h
  unfold negD at eg
  split at eg
  · cases eg
    exact un_neg pins s σ H x v Q I rx ⟨_, P.int, q _ _ (Ex.refl _) (.int _)⟩
  · cases eg
def absD : List D → Option RV
  | [.int i] => some (.sh (.int (if i < 0 then -i else i)))
  | _ => none
theorem bD_abs : CallR X (.builtin "abs") (rPure (ct X) absD) := by
  intro pins s σ H xs us Q I r h
  obtain ⟨da, O, ds, rv, hO, p, eg, q⟩ := h
  unfold absD at eg
  split at eg
  · cases eg
    obtain ⟨v, rfl, P⟩ := p.one
    obtain rfl := P.int
    exact call_abs pins s σ H _ us Q I r ⟨_, rfl, q _ _ (Ex.refl _) (.int _)⟩
  · cases eg
/-- {key: value}, both written -/
theorem fe_dicS {key : Str} {i : Int} {j1 j2 : Nat} {p1 p2 pos : Pos} : FE X (.Dict [some (.Constant (.str key) j1 p1)] [.Constant (.int i) j2 p2] pos) (pureM (.fr (.dic [(.str key, .int i)]))) := fun F => PE.wk (pe_disp (pps_cons pe_str pe_int pps_nil) rfl rfl (by simp) (by simp)) fun σ H Q h => by
  obtain ⟨O, ρ, w, r, ρ', w', S, e, k⟩ := h
  cases e
  intro p np
  refine ⟨upd_same, [(.inr key, .int i)], rfl, by simp, ?_⟩
  have e2 : upd (upd H p (.dK [])) p (.dK (mergeK [] [((.inr key : Key), V.int i)])) = upd H p (.dK [(.inr key, .int i)]) := by
    funext b
    by_cases z : b = p
    · rw [z, upd_same, upd_same]
      rfl
    · rw [upd_ne z, upd_ne z, upd_ne z]
  rw [e2]
  have x2 : Ex H (upd H p (.dK [(.inr key, .int i)])) := Ex.new np
  obtain ⟨S3, n3, k3⟩ := S.hide np x2 upd_same
  exact k _ O _ (S.grow x2) (vis_mono x2) ⟨p, _, rfl, n3, S3, upd_same, .inr (.inl ⟨[(.inr key, .int i)], [(.str key, .int i)], rfl, rfl, .cons (k := .inr key) (.int i) .nil⟩), k3⟩
end

/-! ### the def that begins the draws -/
def offD : Dr := ⟨none, []⟩
def asInt : D → Option Int
  | .int i => some i
  | _ => none
def asInts : List D → Option (List Int)
  | [] => some []
  | d :: r => match asInt d with
    | some i => (asInts r).map (i :: ·)
    | none => none
theorem asInts_some : ∀ {ds : List D} {is : List Int}, asInts ds = some is → ds = is.map D.int
  | [], _, h => by
    cases h
    rfl
  | d :: r, _, h => by
    unfold asInts at h
    split at h
    · rename_i b e
      cases q : asInts r with
      | none =>
        rw [q] at h
        cases h
      | some bs =>
        rw [q] at h
        cases h
        rw [asInts_some q]
        unfold asInt at e
        split at e
        · cases e
          rfl
        · cases e
    · cases h
theorem asInts_map : ∀ (is : List Int), asInts (is.map D.int) = some is
  | [] => rfl
  | b :: r => by
    rw [List.map_cons]
    unfold asInts
    rw [asInts_map r]
    rfl
theorem ne_keys : ((("wide" : Str) = "cells") = False ∧ (("wide" : Str) = "rest") = False ∧ (("wide" : Str) = "turn") = False) ∧ ((("cells" : Str) = "rest") = False ∧ (("cells" : Str) = "turn") = False ∧ (("rest" : Str) = "turn") = False) := by
  refine ⟨⟨?_, ?_, ?_⟩, ?_, ?_, ?_⟩ <;> exact eq_false (by decide +kernel)
theorem merge4 (a b c d : V) : mergeK [] [((.inr "wide" : Key), a), (.inr "cells", b), (.inr "rest", c), (.inr "turn", d)] = [(.inr "wide", a), (.inr "cells", b), (.inr "rest", c), (.inr "turn", d)] := by
  obtain ⟨⟨h1, h2, h3⟩, h4, h5, h6⟩ := ne_keys
  simp [mergeK, putK, Sum.inr.injEq, h1, h2, h3, h4, h5, h6]
/-- the wide numbers and the cells that come of the script -/
def begD (n : Nat) (f1 : M Fl) (f2 : M RV) (i : Nat) (ns : List Int) : Option (List Int × List Int) := match f1 (startE n [.scr ns]) ⟨[], [], 0, 0⟩ with
  | some (.nx, ρ, w) => (match ownL ρ i, f2 ρ w with
    | some _, some (.fr (.lst cs), ρ2, _) => (match ownL ρ2 i with
      | some ws => (match asInts ws with
        | some wi => (match asInts cs with
          | some ci => some (wi, ci)
          | none => none)
        | none => none)
      | none => none)
    | _, _ => none)
  | _ => none
def spB (c : Ct) (beg : List Int → Option (List Int × List Int)) : Sp := fun vs H Q _ => ∃ a ns wi ci, vs = [.ref a] ∧ SqL c.K H a (ns.map V.int) ∧ LamX.Tabs Tabl.T H ∧ beg ns = some (wi, ci) ∧
  ∀ (t : Addr × Addr × Addr) H', H t.1 = none → H t.2.1 = none → H t.2.2 = none → Kp offD H H' → LamX.Tabs Tabl.T H' → H' t.1 = some (.dK (drK t.2.1 t.2.2 ⟨wi, ci, 0, 0⟩)) → H' t.2.1 = some (.lst (wi.map V.int)) → H' t.2.2 = some (.lst (ci.map V.int)) → t.2.1 ≠ t.2.2 → Q (.ref t.1) H'
section
variable {P : Program} {w : World} {K : PySem.W.Frag} {mg : Str → Option Value} {base : Heap}
theorem offD_as : offD.as = Tabl.T.map (·.1) := rfl
theorem begun_ok {x qual : Str} {st : Stmt} {f : Addr} {fd : FuncData} {N ps : List Str} {k i : Nat} {f1 : M Fl} {f2 : M RV} {st1 : Stmt} {e2 : Expr} {y : Str} {j1 j2 j3 j4 j5 j6 : Nat} {q1 q2 q3 q4 q5 q6 q7 q8 q9 : Pos} (F : Fun K x qual st f fd) (S : FnScope N ps (defScope st)) (hps : ps.length = 1)
    (hbd : defBody st = [st1, .Return (some (.Dict [some (.Constant (.str "wide") j1 q1), some (.Constant (.str "cells") j2 q2), some (.Constant (.str "rest") j3 q3), some (.Constant (.str "turn") j4 q4)] [.Name y q5, e2, .Constant (.int 0) j5 q6, .Constant (.int 0) j6 q7] q8)) q9])
    (hb1 : ∀ (cdv : Value) (A : Around) (outer : List PySem.Env) (s : Shared) (H : Hp) (E : XK), Room k (A.deeper (envOfC qual (defScope st) s.heap.objs.size f cdv)) → FS (cxOf CX0 P w K mg base N qual (defScope st) f cdv A outer s H E).nox st1 f1)
    (hb2 : ∀ (cdv : Value) (A : Around) (outer : List PySem.Env) (s : Shared) (H : Hp) (E : XK), Room k (A.deeper (envOfC qual (defScope st) s.heap.objs.size f cdv)) → FE (cxOf CX0 P w K mg base N qual (defScope st) f cdv A outer s H E).nox e2 f2)
    (hy : N[i]? = some y) (hyv : Vis (defScope st) y) (hd : (y == ("__debug__" : Str)) = false) (hcd : (y == ("__classdict__" : Str)) = false) :
    FnOk P w K mg base CX0 (k + 1) f fd ps (spB ⟨K, mg⟩ (begD N.length f1 f2 i)) := by
  obtain ⟨oc, od, kV, doc, pm, an, cdv, ctt, osl, rfl, lk, hcdd⟩ := F.ex
  refine fn_of lk hcdd S (fun _ _ _ _ h => ?_) fun A outer s H vs Q E hr h => ?_
  · obtain ⟨a, ns, wi, ci, rfl, _⟩ := h
    rw [hps]
    rfl
  · obtain ⟨a, ns, wi, ci, rfl, hS, hT, hb, q⟩ := h
    rw [hbd]
    refine ⟨_, PSs.nox (pss_cons (hb1 cdv A outer s H E hr ⟨offD, Tabl.T.map (·.1), H⟩) (pss_one (ps_ret (pe_disp (pps_cons pe_str (pe_var (i := i) hy hyv hd hcd) (pps_cons pe_str (hb2 cdv A outer s H E hr ⟨offD, Tabl.T.map (·.1), H⟩) (pps_cons pe_str pe_int (pps_cons pe_str pe_int pps_nil)))) rfl rfl (by simp) (by simp))))), ?_⟩
    have d0 : DrawAt offD ⟨[], [], 0, 0⟩ H := ⟨(fun t e => nomatch (show (none : Option (Addr × Addr × Addr)) = some t from e)), hT⟩
    have tr0 : ∀ a ∈ Tabl.T.map (·.1), ∃ o, H a = some o ∧ NT o := fun a ha => d0.mem (by rw [offD_as]; exact ha)
    have nT : ∀ {b : Addr} {u : HO}, Rd H b u → (∀ ps, u ≠ .tbl ps) → b ∉ Tabl.T.map (·.1) := fun {b u} hr hn z => by
      obtain ⟨p, hp, rfl⟩ := List.mem_map.mp z
      obtain ⟨ps, e, _⟩ := hT p hp
      rcases hr with h | ⟨o, h⟩
      · rw [e] at h
        cases h
        exact hn _ rfl
      · rw [e] at h
        cases h
    have hS' : SqL K (vis (Tabl.T.map (·.1)) H) a (ns.map V.int) := by
      rcases hS with h | h
      · have na := nT h (fun _ z => nomatch z)
        rcases h with h | ⟨o, h⟩
        · exact .inl (.inl (by rw [vis_out na]; exact h))
        · exact .inl (.inr ⟨o, by rw [vis_out na]; exact h⟩)
      · exact .inr h
    have S0 : SR ⟨K, mg⟩ ⟨offD, Tabl.T.map (·.1), H⟩ (Tabl.T.map (·.1)) (startE N.length [.scr ns]) ⟨[], [], 0, 0⟩ (L2.start N [V.ref a]) H := start_sr (fun a ha => by rw [offD_as] at ha; exact ha) tr0 d0 (.cons (.scr hS') .nil)
    unfold begD at hb
    split at hb
    · rename_i ρ1 w1 e1
      refine ⟨Tabl.T.map (fun x : Addr × Str => x.1), startE N.length [.scr ns], ⟨[], [], 0, 0⟩, .nx, ρ1, w1, S0, e1, fun σ1 O1 H1 S1 x1 => ?_⟩
      split at hb
      · rename_i ws0 cs ρ2 w2 e0 e2
        split at hb
        · rename_i ws e3
          split at hb
          · rename_i wi' e4
            split at hb
            · rename_i ci' e5
              cases hb
              obtain rfl := asInts_some e4
              obtain rfl := asInts_some e5
              intro p np
              have x2 : Ex H1 (upd H1 p (.dK [])) := Ex.new np
              have S2 := S1.grow x2
              have nO1 : p ∉ O1 := fun z => by
                obtain ⟨o, h, _⟩ := S1.trk p z
                rw [np] at h
                cases h
              obtain ⟨a1, xs1, g1, _, _⟩ := own_obj S2 e0
              have hp2 : vis O1 (upd H1 p (.dK [])) p = some (.dK []) := by rw [vis_out nO1]; exact upd_same
              refine ⟨.ref a1, g1, O1, ρ1, w1, .fr (.lst (ci.map D.int)), ρ2, w2, S2, e2, fun v O3 H3 S3 x3 R3 => ?_⟩
              obtain ⟨a2, o2, rfl, n2, S4, g2, ob, _⟩ := R3
              have hp3 : H3 p = some (.dK []) := vis_ex _ _ (x3 _ _ hp2)
              obtain ⟨a1', o1, k1, k2, k3, k4, k5⟩ := S3.own i _ (ownL_some e3)
              rw [g1] at k1
              cases k1
              have l1 : o1 = .lst (wi.map V.int) := by
                rcases k5 with ⟨xs, es, rfl, z, r⟩ | ⟨_, _, _, z, _⟩ | ⟨_, _, _, z, _⟩ | ⟨_, _, _, _, _, _, z, _⟩
                · cases z
                  rw [r.ints_inv]
                · cases z
                · cases z
                · cases z
              have l2 : o2 = .lst (ci.map V.int) := by
                rcases ob with ⟨xs, es, rfl, z, r⟩ | ⟨_, _, _, z, _⟩ | ⟨_, _, _, z, _⟩ | ⟨_, _, _, _, _, _, z, _⟩
                · cases z
                  rw [r.ints_inv]
                · cases z
                · cases z
                · cases z
              subst l1
              subst l2
              have n12 : a1 ≠ a2 := fun z => n2 (z ▸ k2)
              have np1 : a1 ≠ p := fun z => by
                rw [z, hp3] at k4
                cases k4
              have np2 : a2 ≠ p := fun z => by
                rw [z, hp3] at g2
                cases g2
              refine ⟨hp3, [(.inr "wide", .ref a1), (.inr "cells", .ref a2), (.inr "rest", .int 0), (.inr "turn", .int 0)], rfl, by simp, ?_⟩
              rw [merge4]
              have hp0 : H p = none := by
                cases z : H p with
                | none => rfl
                | some o =>
                  by_cases m : p ∈ offD.as
                  · obtain ⟨o', z', _⟩ := S1.trk p (S1.sub p (S1.drs p m))
                    rw [np] at z'
                    cases z'
                  · have z' := S1.base p o z m
                    rw [np] at z'
                    cases z'
              refine q (p, a1, a2) _ hp0 (S3.new a1 k2 k3) (S4.new a2 List.mem_cons_self fun z => n2 (S3.sub a2 z)) (fun b o hb nb => ?_) (tabs_upd S3.draw.2 (fun t ht z => ?_) hp3 (fun _ z => nomatch z)) upd_same (by rw [upd_ne np1]; exact k4) (by rw [upd_ne np2]; exact g2) n12
              · have z1 := S1.base b o hb nb
                rw [upd_ne (ne_of_none z1 np)]
                exact S3.base b o hb nb
              · obtain ⟨ps, hp', _⟩ := S3.draw.2 t ht
                rw [z, hp3] at hp'
                cases hp'
            · cases hb
          · cases hb
        · cases hb
      · cases hb
    · cases hb
end
end FD

end sec_FD15
section sec_LG
set_option maxRecDepth 100000
set_option maxHeartbeats 5000000
/-! LG: a def that is run where no repr is under way, and the law as such a def. -/
namespace LG
open PySem PySem.Spec PyProof.Rows L2 LamX
section
variable {P : Program} {w : World} {K : PySem.W.Frag} {mg mb : Str → Option Value} {base : Heap}
/-- what f promises to a caller that stands in A -/
def Runs (P : Program) (w : World) (K : PySem.W.Frag) (mg : Str → Option Value) (base : Heap) (A : Around) (f : Addr) (fd : FuncData) (ps : List Str) (sp : Sp) : Prop :=
  ∀ (outer : List Env) (s : Shared) (H : Hp) (args : Args) (us : List Value) (vs : List V) (Q : VK) (E : XK),
    Env0 P w K mg base A outer s H → BindsTo s fd args (ps.zip us) → Vals vs us → sp vs H Q E → codeAny (model P w) A (.call (.ref f) args) (CR CX0 outer P w H s Q E) s
structure FnG (P : Program) (w : World) (K : PySem.W.Frag) (mg : Str → Option Value) (base : Heap) (k : Nat) (f : Addr) (fd : FuncData) (ps : List Str) (sp : Sp) : Prop where
  len : ∀ vs H Q E, sp vs H Q E → vs.length = ps.length
  runs : ∀ A, Room k A → A.guards = some [] → Runs P w K mg base A f fd ps sp
theorem runs_of {A : Around} {k : Nat} {f : Addr} {name qual : Str} {params : Arguments} {body : List Stmt} {scope : Scope} {dV kV doc pm cdv ct oc : Value} {an od : Option Addr} {osl : Array (Option Value)} {N ps : List Str} {sp : Sp}
    (lk : K.lookup f = some ⟨oc, od, .func (PySem.W.fnOf name qual params body scope dV kV doc pm an cdv ct), osl⟩) (code : PySem.W.codeIn K cdv qual = true) (S : FnScope N ps scope) (len : ∀ vs H Q E, sp vs H Q E → vs.length = ps.length) (room : Room (k + 1) A)
    (go : ∀ (outer : List Env) (s : Shared) (H : Hp) (vs : List V) (Q : VK) (E : XK), sp vs H Q E → ∃ t, PSs (cxOf CX0 P w K mg base N qual scope f cdv A outer s H E) body t ∧ t { nx := fun _ H2 => Q .non H2, rt := Q } (L2.start N vs) H) :
    Runs P w K mg base A f (PySem.W.fnOf name qual params body scope dV kV doc pm an cdv ct) ps sp := by
  intro outer s H args us vs Q E e0 bt rel sat
  obtain ⟨t, good, pre⟩ := go outer s H vs Q E sat
  have stays : ∀ b o, base.get? b = some o → s.heap.get? b = some o := fun b o q => (e0.bs b o q).1
  have inK := e0.mod.kin.keeps stays
  apply codeAny_call_function room.depth (inK f _ lk) rfl S.co S.gen rfl (PySem.W.codeRec_of inK code)
  apply bt
  refine wpAny_newFunctionEnv_cells S.kind ?par ?run
  case par =>
    intro q hq
    cases S.par q.1 (List.of_mem_zip hq).1 with
    | inl z => exact Or.inl z
    | inr z => exact Or.inr ⟨z, PySem.W.cellsFrom_some _ _ _ (Or.inl z)⟩
  case run =>
    intro env he s1 made
    cases he
    constructor
    · exact (e0.mod.nolimit.keeps stays).keeps made.toInCall.keep
    apply codeAny_func
    apply wpAny_mono (good.run [] s1 _ H _ (inv_start S room.hd e0 (len _ _ _ _ sat) rel made) pre)
    · intro fl s2 out
      match fl, out with
      | .ret u, ⟨v, _, H2, J, rv, q⟩ => exact ⟨v, H2, J.os, J.bare, J.base, J.hok, rv, q⟩
      | .next, ⟨_, H2, J, q⟩ => exact ⟨V.non, H2, J.os, J.bare, J.base, J.hok, (rfl : RelV V.non Value.none), q⟩
      | .brk, ⟨_, _, _, q⟩ => exact absurd q id
      | .cont, ⟨_, _, _, q⟩ => exact absurd q id
    · intro _ _ z
      exact z
/-! ### the state in which the law is called -/
/-- a table of code objects that is still empty -/
abbrev tabO : Obj := { cls := .none, data := .fields #[] }
abbrev lstO (vs : List Value) : Obj := { cls := .type "list", data := .seq vs.toArray }
structure Stage (P : Program) (w : World) (K : PySem.W.Frag) (mg mb : Str → Option Value) (cs : List (Addr × Addr)) (s : Shared) (a : Addr) (vs : List Value) (ns : List Int) : Prop where
  frag : K.In s.heap
  main : s.heap.Ns mainGlobals mg
  blt : s.heap.Ns builtinsNs mb
  boot : ∀ x : Str, x ≠ "__name__" → mb x = bootBuiltins x
  lim : s.heap.NoLimit
  gens : s.gens = #[]
  tab : ∀ p ∈ cs, s.heap.get? p.2 = some tabO
  out : ∀ p ∈ cs, K.lookup p.2 = none
  codes : ∀ p ∈ cs, PySem.W.CodeHd s.heap p.1 p.2
  bm : ∃ (bm : Addr) (ob : Obj), mg "__builtins__" = some (.ref bm) ∧ bm ≠ builtinsNs ∧ s.heap.get? bm = some ob ∧ ob.cls = .type "module" ∧ ob.dict = some builtinsNs ∧ ob.data = .plain
  lst : s.heap.get? a = some (lstO vs)
  nums : IntsAre vs ns
  most : ns.length ≤ sizeLine
/-- what is tracked at the start: the tables, and the script unless it is a constant -/
def seen (K : PySem.W.Frag) (cs : List (Addr × Addr)) (a : Addr) (vs : List Value) (ns : List Int) : Hp := fun b =>
  if (cs.any fun p => p.2 == b) = true then some (.tbl #[]) else if b = a ∧ (K.lookup a).isNone = true then some (.frz (lstO vs) (.lst (ns.map V.int))) else none
def tracksData : Data → Bool
  | .seq _ _ => true
  | .fields vs => vs.isEmpty
  | _ => false
variable {cs : List (Addr × Addr)} {s : Shared} {a : Addr} {vs : List Value} {ns : List Int}
theorem anyT {b : Addr} : (cs.any fun p => p.2 == b) = true ↔ ∃ p ∈ cs, p.2 = b := by simp [List.any_eq_true]
theorem seen_inv {b : Addr} {u : HO} (h : seen K cs a vs ns b = some u) : ((∃ p ∈ cs, p.2 = b) ∧ u = .tbl #[]) ∨ (b = a ∧ K.lookup a = none ∧ u = .frz (lstO vs) (.lst (ns.map V.int))) := by
  unfold seen at h
  split at h
  · rename_i z
    cases h
    exact Or.inl ⟨anyT.mp z, rfl⟩
  · split at h
    · rename_i z
      cases h
      exact Or.inr ⟨z.1, Option.isNone_iff_eq_none.mp z.2, rfl⟩
    · cases h
theorem seen_tab {p : Addr × Addr} (hp : p ∈ cs) : seen K cs a vs ns p.2 = some (.tbl #[]) := if_pos (anyT.mpr ⟨p, hp, rfl⟩)
namespace Stage
variable (Z : Stage P w K mg mb cs s a vs ns)
include Z
theorem obj {b : Addr} {u : HO} (h : seen K cs a vs ns b = some u) : ∃ o, s.heap.get? b = some o ∧ tracksData o.data = true ∧ K.lookup b = none := by
  cases seen_inv h with
  | inl z =>
    obtain ⟨⟨p, hp, rfl⟩, _⟩ := z
    exact ⟨tabO, Z.tab p hp, rfl, Z.out p hp⟩
  | inr z => exact ⟨lstO vs, by rw [z.1]; exact Z.lst, rfl, by rw [z.1]; exact z.2.1⟩
theorem off {b : Addr} {o : Obj} (e : s.heap.get? b = some o) (n : tracksData o.data = false) : seen K cs a vs ns b = none := by
  match q : seen K cs a vs ns b with
  | none => rfl
  | some u =>
    obtain ⟨o2, e2, t2, _⟩ := Z.obj q
    rw [e] at e2
    injection e2 with e2
    rw [e2, t2] at n
    cases n
theorem low {b : Addr} {o : Obj} (e : s.heap.get? b = some o) (n : tracksData o.data = false) : (hidT s.heap (seen K cs a vs ns)).get? b = some o := hidT_get e (Z.off e n)
theorem lowNs {b : Addr} {m : Str → Option Value} (h : s.heap.Ns b m) : (hidT s.heap (seen K cs a vs ns)).Ns b m := by
  obtain ⟨o, es, ep, e, d, rest⟩ := h
  exact ⟨o, es, ep, Z.low e (by rw [d]; rfl), d, rest⟩
theorem lowK : K.In (hidT s.heap (seen K cs a vs ns)) := by
  intro b o e
  apply hidT_get (Z.frag b o e)
  match q : seen K cs a vs ns b with
  | none => rfl
  | some u =>
    obtain ⟨_, _, _, n⟩ := Z.obj q
    rw [n] at e
    cases e
theorem lowMod : L2.Mod K mg (hidT s.heap (seen K cs a vs ns)) := by
  obtain ⟨mc, l1, l2⟩ := Z.lim
  exact ⟨Z.lowK, Z.lowNs Z.main, ⟨mb, Z.lowNs Z.blt, Z.boot⟩, ⟨mc, Z.lowNs l1, l2⟩⟩
theorem lowTab {p : Addr × Addr} (hp : p ∈ cs) : TabB (hidT s.heap (seen K cs a vs ns)) mg p.1 p.2 := by
  obtain ⟨om, em, pm, eM, dM, _⟩ := Z.main
  have tp := Z.tab p hp
  refine ⟨?code, ?bm, ?ne⟩
  case code =>
    obtain ⟨o, us, x1, x2, x3, x4, x5, x6, x7, e, c1, c2, c3, rest⟩ := Z.codes p hp
    refine ⟨o, us, x1, x2, x3, x4, x5, x6, x7, Z.low e ?_, c1, c2, c3, rest⟩
    rw [c2]
    show us.isEmpty = false
    have : 11 < us.size := (Array.getElem?_eq_some_iff.mp c3).1
    rw [Array.isEmpty, decide_eq_false_iff_not]
    omega
  case bm =>
    obtain ⟨bm, ob, b1, b2, b3, b4, b5, b6⟩ := Z.bm
    refine ⟨bm, ob, b1, b2, ?_, ?_, Z.low b3 (by rw [b6]; rfl), b4, b5, b6⟩
    · rintro rfl
      rw [eM] at b3
      injection b3 with b3
      rw [← b3, dM] at b6
      cases b6
    · rintro rfl
      rw [tp] at b3
      injection b3 with b3
      rw [← b3] at b6
      cases b6
  case ne =>
    intro z
    rw [z, tp] at eM
    injection eM with eM
    rw [← eM] at dM
    cases dM
theorem heapOk : HOk P w (seen K cs a vs ns) s.heap := by
  intro b u h
  cases seen_inv h with
  | inl z =>
    obtain ⟨⟨p, hp, rfl⟩, rfl⟩ := z
    exact Z.tab p hp
  | inr z =>
    obtain ⟨rfl, _, rfl⟩ := z
    exact ⟨Z.lst, by simpa using Z.most, vs, _, vals_ints Z.nums, Z.lst⟩
theorem script : SqL K (seen K cs a vs ns) a (ns.map V.int) := by
  match q : K.lookup a with
  | none =>
    refine Or.inl (Or.inr ⟨lstO vs, ?_⟩)
    unfold seen
    rw [if_neg, if_pos ⟨rfl, by rw [q]; rfl⟩]
    intro z
    obtain ⟨p, hp, rfl⟩ := anyT.mp z
    have := Z.lst
    rw [Z.tab p hp] at this
    cases this
  | some o =>
    have e := Z.frag a o q
    rw [Z.lst] at e
    injection e with e
    subst e
    exact Or.inr ⟨_, vs.toArray, _, q, rfl, rfl, rfl, by simpa [Z.nums.length] using Z.most, by simpa using vals_ints Z.nums⟩
theorem env : Env0 P w K mg (hidT s.heap (seen K cs a vs ns)) callerA [] s (seen K cs a vs ns) where
  frames := rfl
  mod := Z.lowMod
  bs := fun b o e => of_hidT e
  bsz := Nat.le_of_eq (hidT_size _ _)
  funs := trivial
  frf := by
    intro b hb
    cases hb
  hok := Z.heapOk
  bare := .of_eq Z.gens
/-- the law, called: nothing that stood there is changed but the tables, which grow -/
theorem called {k : Nat} {fa : Addr} {fd : FuncData} {x : Str} {sp : Sp} (room : Room k callerA) (F : FnG P w K mg (hidT s.heap (seen K cs a vs ns)) k fa fd [x] sp)
    (hb : ∀ (s : Shared) (u : Value), BindsTo s fd ⟨[u], []⟩ [(x, u)]) (sat : ∀ H : Hp, (∀ p ∈ cs, H p.2 = some (.tbl #[])) → SqL K H a (ns.map V.int) → sp [.ref a] H (fun v _ => v = .bl true) fun _ _ _ => False) :
    codeAny (model P w) callerA (.call (.ref fa) ⟨[.ref a], []⟩) (fun r s2 => r = .ok (.ret (.bool true)) ∧ OldK s.heap s2.heap ∧ s2.os = s.os ∧ AllBare s2.gens) s := by
  have go := F.runs callerA room rfl [] s _ ⟨[.ref a], []⟩ [.ref a] [.ref a] _ _ Z.env (hb s (.ref a)) (.cons rfl .nil) (sat _ (fun p hp => seen_tab hp) Z.script)
  apply codeAny_mono go
  intro r s2 end2
  match r, end2 with
  | .error _, z => exact absurd z id
  | .ok .next, z => exact absurd z id
  | .ok .brk, z => exact absurd z id
  | .ok .cont, z => exact absurd z id
  | .ok (.ret u), ⟨v, H2, os, bare, un, hok, rv, q⟩ =>
    have q : v = .bl true := q
    rw [q] at rv
    have ru : u = Value.bool true := rv
    have grown : ∀ p ∈ cs, ∃ more : Array Value, s2.heap.get? p.2 = some { cls := .none, data := .fields more } := fun p hp => by
      obtain ⟨more, z⟩ := un.tbls p.2 #[] (seen_tab hp)
      exact ⟨_, hok p.2 _ z⟩
    have same : ∀ b o, (¬ ∃ p ∈ cs, p.2 = b) → s.heap.get? b = some o → s2.heap.get? b = some o := fun b o nb e => by
      match t : seen K cs a vs ns b with
      | none => exact un.keep b o e t (by intro z; cases z) (by intro z; cases z)
      | some u2 =>
        cases seen_inv t with
        | inl z => exact absurd z.1 nb
        | inr z =>
          obtain ⟨rfl, _, rfl⟩ := z
          have f1 := (Z.heapOk _ _ t).1
          have f2 := (hok _ _ (un.frzs _ _ _ t)).1
          rw [e] at f1
          rw [f1]
          exact f2
    refine ⟨by rw [ru], ⟨fun b o e => ?_, fun b o e => ?_⟩, os, bare⟩
    · by_cases hb : ∃ p ∈ cs, p.2 = b
      · obtain ⟨p, hp, rfl⟩ := hb
        obtain ⟨new, hm⟩ := grown p hp
        rw [Z.tab p hp] at e
        injection e with e
        subst e
        refine Or.inr (Or.inl ⟨((Z.codes p hp).tab (Z.tab p hp)).isCodeTable, rfl, #[], new, rfl, ?_⟩)
        rw [Array.empty_append]
        exact hm
      · exact Or.inl (same b o hb e)
    · by_cases hb : ∃ p ∈ cs, p.2 = b
      · obtain ⟨p, hp, rfl⟩ := hb
        obtain ⟨new, hm⟩ := grown p hp
        exact ⟨_, hm⟩
      · exact ⟨o, same b o hb e⟩
end Stage
end
/-- a script of at most n numbers, none of them beyond the bits -/
def ScriptOk (n : Nat) (ns : List Int) : Prop := ns.length ≤ n ∧ ∀ z ∈ ns, Builtin.Int.intBits z ≤ 1048576
/-- a dict that is none of ours stands at the place of sys.modules -/
def SmAt (base : Heap) : Prop := ∃ o es ep, base.get? sysModules = some o ∧ o.data = .dict es ep
/-- the same for a law that asks for the repr of what holds dicts -/
def LawS (l : PySem.W.OpenLaw) (w : World) (K : PySem.W.Frag) (k n : Nat) (x : Str) (mg : Str → Option Value) (fa : Addr) (h : Heap) : Prop :=
  ∃ (fd : FuncData) (cs : List (Addr × Addr)) (sp : Sp), (∀ p ∈ cs, h.get? p.2 = some tabO ∧ K.lookup p.2 = none ∧ PySem.W.CodeHd h p.1 p.2) ∧ (∀ (s : Shared) (u : Value), BindsTo s fd ⟨[u], []⟩ [(x, u)]) ∧
    (∀ (H : Hp) (a : Addr) (ns : List Int), ScriptOk n ns → (∀ p ∈ cs, H p.2 = some (.tbl #[])) → SqL K H a (ns.map V.int) → sp [.ref a] H (fun v _ => v = .bl true) fun _ _ _ => False) ∧
    ∀ base : Heap, K.In base → base.Ns mainGlobals mg → SmAt base → (∀ p ∈ cs, TabB base mg p.1 p.2) → FnG l.prog w K mg base k fa fd [x] sp
theorem walkS {l : PySem.W.OpenLaw} {n k : Nat} {q : Program} {loose : List Str} {XP : (Str → Option Value) → Heap → Prop} {YP : World → Heap → Prop} {d : DefRec} {K : Params → PySem.W.Frag} {x : Str} (most : l.most = some n) (small : n ≤ sizeLine)
    (plain : d.params.defaults = []) (room : Room k callerA) (frag : ∀ (w : World) (h : Heap), YP w h → (K w.params).In h) (still : importsNone q = true)
    (row : ∀ (w : World) (mg : Str → Option Value) (fa : Addr) (h : Heap), YP w h → (K w.params).In h → h.Ns mainGlobals mg → mg d.name = some (.ref fa) → LawS l w (K w.params) k n x mg fa h) :
    PySem.W.WalkO q loose XP YP l.row.toRowW d [] fun g us => PySem.call g us := by
  apply Att.attach_callB most plain
  intro w s0 s mg mb fa o pm cd doc a vs ns G Y _ _ _ name lst nums len bits gens
  obtain ⟨fd, cs, sp, hcs, hb, sat, F⟩ := row w mg fa _ Y (frag w _ Y) G.T.g name
  have Z : Stage l.prog w (K w.params) mg mb cs s a vs ns := ⟨frag w _ Y, G.T.g, G.T.b, G.T.builtins, G.T.nolimit, gens, fun p hp => (hcs p hp).1, fun p hp => (hcs p hp).2.1, fun p hp => (hcs p hp).2.2, G.T.bmain, lst, nums, Nat.le_trans len small⟩
  obtain ⟨mm, hm, _⟩ := (G.T.seer still).mods
  have sm : SmAt (hidT s.heap (seen (K w.params) cs a vs ns)) := by
    obtain ⟨o, es, ep, e, d, _⟩ := Z.lowNs hm
    exact ⟨o, es, ep, e, d⟩
  exact Z.called room (F _ Z.lowK (Z.lowNs Z.main) sm fun p hp => Z.lowTab hp) hb fun H hH hS => sat H a ns ⟨len, bits⟩ hH hS
end LG

end sec_LG
section sec_FD16
set_option maxRecDepth 100000
set_option maxHeartbeats 5000000
/-! FD16: the law. -/
namespace FD
open PySem L2
variable [Tabl]
open PyProof.Rows (envOfC)
def endT : Option (Fl × Env × W) → Bool
  | some (.ret (.sh (.bl b)), _, _) => b
  | _ => false
def denL (n : Nat) (beg : List Int → Option (List Int × List Int)) (fr : M Fl) (ns : List Int) : Bool := match beg ns with
  | some (wi, ci) => endT (fr ((startE n [.scr ns]).set 1 (some (.val .draw))) ⟨wi, ci, 0, 0⟩)
  | none => false
def spL (c : Ct) (den : List Int → Bool) : Sp := fun vs H Q _ => ∃ a ns, vs = [.ref a] ∧ SqL c.K H a (ns.map V.int) ∧ LamX.Tabs Tabl.T H ∧ den ns = true ∧ ∀ H', Q (.bl true) H'
section
variable {P : Program} {w : World} {K : PySem.W.Frag} {mg : Str → Option Value} {base : Heap}
theorem FSs.any {X : Cx} {sts : List Stmt} {f : M Fl} (h : FSs X sts f) : PSs X sts (fun E σ H => ∃ F, tS (ct X) F f E σ H) := ⟨fun pins s σ H E I ⟨F, q⟩ => (h F).run pins s σ H E I q⟩
theorem law_okL {st : Stmt} {f g : Addr} {fd fdg : FuncData} {N psg : List Str} {k kg : Nat} {fr : M Fl} {rest : List Stmt} {x y : Str} {beg : List Int → Option (List Int × List Int)} {p1 p2 p3 p4 p5 : Pos} (F : Fun K "law" "law" st f fd) (S : FnScope N [x] (defScope st))
    (FB : FnOk P w K mg base CX0 kg g fdg psg (spB ⟨K, mg⟩ beg)) (mb : mg y = some (.ref g)) (kpb : PySem.W.keepIn K (.ref g) = true) (bb : Binds K fdg psg []) (hkg : kg ≤ k)
    (hbd : defBody st = .Assign [.Name "_law_draw" p1] (.Call (.Name y p2) [.Name x p3] [] p4) p5 :: rest)
    (hN0 : N[0]? = some x) (hN1 : N[1]? = some ("_law_draw" : Str)) (v0 : Vis (defScope st) x) (l1 : Loc (defScope st) ("_law_draw" : Str)) (hgy : (defScope st).names.lookup y = some .globalImplicit)
    (hxd : (x == ("__debug__" : Str)) = false) (hxc : (x == ("__classdict__" : Str)) = false) (hyd : (y == ("__debug__" : Str)) = false)
    (hrest : ∀ (cdv : Value), (∃ (oc : Value) (od : Option Addr) (kV doc pm : Value) (an : Option Addr) (ct : Value) (osl : Array (Option Value)), K.lookup f = some ⟨oc, od, .func (PySem.W.fnOf "law" "law" (defArgs st) (defBody st) (defScope st) .none kV doc pm an cdv ct), osl⟩) → ∀ (A : Around) (outer : List PySem.Env) (s : Shared) (H : Hp) (E : XK), Room k (A.deeper (envOfC "law" (defScope st) s.heap.objs.size f cdv)) → A.guards = some [] → FSs (cxOf CX0 P w K mg base N "law" (defScope st) f cdv A outer s H E).nox rest fr) :
    LG.FnG P w K mg base (k + 1) f fd [x] (spL ⟨K, mg⟩ (denL N.length beg fr)) := by
  obtain ⟨oc, od, kV, doc, pm, an, cdv, ctt, osl, rfl, lk, hcdd⟩ := F.ex
  have len : ∀ vs H Q E, spL ⟨K, mg⟩ (denL N.length beg fr) vs H Q E → vs.length = [x].length := fun vs H Q E h => by
    obtain ⟨a, ns, rfl, _⟩ := h
    rfl
  refine ⟨len, fun A room hG => LG.runs_of lk hcdd S len room fun outer s H vs Q E h => ?_⟩
  · have hr := room.deeper (envOfC "law" (defScope st) s.heap.objs.size f cdv)
    obtain ⟨a, ns, rfl, hS, hT, hb, q⟩ := h
    rw [hbd]
    refine ⟨_, PSs.nox (pss_cons (ps_set (i := 1) (X := (cxOf CX0 P w K mg base N "law" (defScope st) f cdv A outer s H E).nox) S.nd hN1 l1 (pe_call FB (hr.mono hkg) hgy mb kpb bb .nil pass0 (pa_cons (pe_var (i := 0) hN0 v0 hxd hxc) pa_nil) hyd) rfl (.inl rfl)) (hrest cdv ⟨oc, od, kV, doc, pm, an, ctt, osl, lk⟩ A outer s H E hr hG).any), ?_⟩
    unfold denL at hb
    split at hb
    · rename_i wi ci eb
      refine ⟨.ref a, rfl, ?_⟩
      refine ⟨a, ns, wi, ci, rfl, hS, hT, eb, fun t H' f1 f2 f3 kp hT' g1 g2 g3 ne => ?_⟩
      have dw : DrawAt ⟨some t, ci⟩ ⟨wi, ci, 0, 0⟩ H' := ⟨fun t' e => by
        cases e
        exact ⟨g1, g2, g3, ne, rfl⟩, hT'⟩
      have nT : ∀ {b : Addr} {u : HO}, Rd H b u → (∀ ps, u ≠ .tbl ps) → b ∉ Tabl.T.map (·.1) := fun {b u} hr hn z => by
        obtain ⟨p, hp, rfl⟩ := List.mem_map.mp z
        obtain ⟨ps, e, _⟩ := hT p hp
        rcases hr with h | ⟨o, h⟩
        · rw [e] at h
          cases h
          exact hn _ rfl
        · rw [e] at h
          cases h
      have nA : ∀ {b : Addr} {u : HO}, Rd H b u → (∀ ps, u ≠ .tbl ps) → b ∉ (⟨some t, ci⟩ : Dr).as := fun {b u} hr hn z => by
        have nb : H b ≠ none := by
          rcases hr with h | ⟨o, h⟩ <;> (rw [h]; simp)
        rcases List.mem_append.mp z with z | z
        · have z : b = t.1 ∨ b = t.2.1 ∨ b = t.2.2 := by simpa [Dr.ds] using z
          rcases z with z | z | z
          · rw [z] at nb
            exact nb f1
          · rw [z] at nb
            exact nb f2
          · rw [z] at nb
            exact nb f3
        · exact nT hr hn z
      have hS' : SqL K (vis (⟨some t, ci⟩ : Dr).as H') a (ns.map V.int) := by
        rcases hS with h | h
        · have n1 := nA h (fun _ z => nomatch z)
          have n2 := nT h (fun _ z => nomatch z)
          rcases h with h | ⟨o, h⟩
          · exact .inl (.inl (by rw [vis_out n1]; exact kp _ _ h n2))
          · exact .inl (.inr ⟨o, by rw [vis_out n1]; exact kp _ _ h n2⟩)
        · exact .inr h
      have S0 : SR ⟨K, mg⟩ ⟨⟨some t, ci⟩, (⟨some t, ci⟩ : Dr).as, H'⟩ (⟨some t, ci⟩ : Dr).as (startE N.length [.scr ns]) ⟨wi, ci, 0, 0⟩ (L2.start N [V.ref a]) H' := start_sr (fun _ h => h) (fun b hb => dw.mem hb) dw (.cons (.scr hS') .nil)
      have S1 := S0.setVal 1 (v := .ref t.1) (d := .draw) (.draw rfl)
      cases er : fr ((startE N.length [.scr ns]).set 1 (some (.val .draw))) ⟨wi, ci, 0, 0⟩ with
      | none =>
        rw [er] at hb
        cases hb
      | some z =>
        obtain ⟨fl, ρ', w'⟩ := z
        rw [er] at hb
        refine ⟨⟨⟨some t, ci⟩, (⟨some t, ci⟩ : Dr).as, H'⟩, _, _, _, fl, ρ', w', S1, er, ?_⟩
        cases fl with
        | ret r =>
          cases r with
          | sh d =>
            cases d with
            | bl b =>
              have hb : b = true := hb
              subst hb
              intro v σ O H2 S2 R
              cases R
              exact q H2
            | _ => cases hb
          | _ => cases hb
        | _ => cases hb
    · cases hb
theorem law_okT {ca : Addr} {st : Stmt} {f g : Addr} {fd fdg : FuncData} {N psg : List Str} {k kg : Nat} {fr : M Fl} {rest : List Stmt} {x y : Str} {beg : List Int → Option (List Int × List Int)} {p1 p2 p3 p4 p5 : Pos} (F : Fun K "law" "law" st f fd) (S : FnScope N [x] (defScope st))
    (FB : FnOk P w K mg base CX0 kg g fdg psg (spB ⟨K, mg⟩ beg)) (mb : mg y = some (.ref g)) (kpb : PySem.W.keepIn K (.ref g) = true) (bb : Binds K fdg psg []) (hkg : kg ≤ k)
    (hbd : defBody st = .Assign [.Name "_law_draw" p1] (.Call (.Name y p2) [.Name x p3] [] p4) p5 :: rest)
    (hN0 : N[0]? = some x) (hN1 : N[1]? = some ("_law_draw" : Str)) (v0 : Vis (defScope st) x) (l1 : Loc (defScope st) ("_law_draw" : Str)) (hgy : (defScope st).names.lookup y = some .globalImplicit)
    (hxd : (x == ("__debug__" : Str)) = false) (hxc : (x == ("__classdict__" : Str)) = false) (hyd : (y == ("__debug__" : Str)) = false)
    (hcd : ∀ oc od kV doc pm an cdv ct osl, K.lookup f = some ⟨oc, od, .func (PySem.W.fnOf "law" "law" (defArgs st) (defBody st) (defScope st) .none kV doc pm an cdv ct), osl⟩ → cdv = .ref ca)
    (hrest : ∀ (A : Around) (outer : List PySem.Env) (s : Shared) (H : Hp) (E : XK), Room k (A.deeper (envOfC "law" (defScope st) s.heap.objs.size f (.ref ca))) → A.guards = some [] → FSs (cxOf CX0 P w K mg base N "law" (defScope st) f (.ref ca) A outer s H E).nox rest fr) :
    LG.FnG P w K mg base (k + 1) f fd [x] (spL ⟨K, mg⟩ (denL N.length beg fr)) := law_okL F S FB mb kpb bb hkg hbd hN0 hN1 v0 l1 hgy hxd hxc hyd fun cdv ⟨oc, od, kV, doc, pm, an, ct, osl, lk⟩ => by
  obtain rfl := hcd _ _ _ _ _ _ _ _ _ lk
  exact hrest
end
end FD

end sec_FD16
section sec_FD17
set_option maxRecDepth 100000
set_option maxHeartbeats 5000000
/-! FD17: short forms for printed derivations. -/
namespace FD
open PySem L2
open PyProof.Rows (envOfC)
theorem bo_len : bootBuiltins "len" = some (.builtin "len") := by decide +kernel
theorem bo_min : bootBuiltins "min" = some (.builtin "min") := by decide +kernel
theorem bo_max : bootBuiltins "max" = some (.builtin "max") := by decide +kernel
theorem bo_abs : bootBuiltins "abs" = some (.builtin "abs") := by decide +kernel
theorem bo_repr : bootBuiltins "repr" = some (.builtin "repr") := by decide +kernel
theorem bo_int : bootBuiltins "int" = some (.type "int") := by decide +kernel
theorem bo_tuple : bootBuiltins "tuple" = some (.type "tuple") := by decide +kernel
abbrev subD : D → D → Option RV := intD (i0 fun i j => .int (i - j))
abbrev ltD : D → D → Option RV := ordD (fun i j => decide (i < j)) ltS
abbrev gtD : D → D → Option RV := intD (i0 fun i j => .bl (decide (j < i)))
abbrev geD : D → D → Option RV := intD (i0 fun i j => .bl (decide (j ≤ i)))
abbrev retM (f : M RV) : M Fl := bindM f fun r => pureM (.ret r)
abbrev exprM (f : M RV) : M Fl := bindM f fun _ => pureM .nx
abbrev setM' (i : Nat) (f : M RV) : M Fl := bindM f fun r => nxM (asgM i r)
abbrev parSt (is : List Nat) (f : M (List RV)) : M Fl := bindM f fun rs => nxM (parM is rs)
abbrev asgSt (f : M RV) (g : D → M Unit) : M Fl := bindM f fun r => bindM (escR r) fun d => nxM (g d)
abbrev propM (cn : Str) (den : List D → W → Option (RV × W)) (fo : M RV) : M RV := bindM fo fun r => bindM (escR r) fun d => match d with
  | .ins c' gs => if c' = cn then runD den [d] else failM
  | _ => failM
variable [Tabl]
/-- a module's constant -/
structure GlbD (K : PySem.W.Frag) (mg : Str → Option Value) (x : Str) (d : D) : Prop where
  ex : ∃ u v, mg x = some u ∧ RelV v u ∧ ∀ da G, Rep ⟨K, mg⟩ da G v d
structure IsiC (K : PySem.W.Frag) (mg : Str → Option Value) (cn : Str) (bt : String → Bool) (ic : List (Str × Bool)) : Prop where
  ex : ∃ C, mg cn = some (.ref C) ∧ KndD K mg (fun t b => PySem.W.kitOne K t (.ref C) = some b) bt ic
section
variable {X : Cx} {x cn : Str} {d : D} {pos p p2 : Pos} {a : Expr} {fa : M RV} {bt : String → Bool} {ic : List (Str × Bool)}
theorem fe_isiC (h : IsiC X.K X.mg cn bt ic) (hgc : Gl X cn) (hm : X.mg "isinstance" = none) (hg : Gl X "isinstance") (ha : FE X a fa) (hd : (cn == ("__debug__" : Str)) = false := by decide)
    (hs : starEach [a, .Name cn p2] X.env = (false, eval a X.env) :: starEach [.Name cn p2] X.env := by rfl) (hs2 : starEach [.Name cn p2] X.env = (false, eval (.Name cn p2) X.env) :: starEach [] X.env := by rfl) (hpl : (backTo pos (starEach [.Name cn p2] X.env)).any (·.1) = false := by rfl) :
    FE X (.Call (.Name "isinstance" p) [a, .Name cn p2] [] pos) (isiM bt ic fa) := by
  obtain ⟨C, h1, h2⟩ := h.ex
  exact fe_isi hg hm (pe_glob (v := .ref C) hgc h1 rfl hd) (.own C) h2 ha hs hs2 hpl
end
theorem kk1 : (("wide" : Str) = "rest") = False := eq_false (by decide +kernel)
theorem kk2 : (("wide" : Str) = "turn") = False := eq_false (by decide +kernel)
theorem kk3 : (("cells" : Str) = "rest") = False := eq_false (by decide +kernel)
theorem kk4 : (("cells" : Str) = "turn") = False := eq_false (by decide +kernel)
theorem kk5 : (("rest" : Str) = "turn") = False := eq_false (by decide +kernel)
theorem kk6 : (("turn" : Str) = "rest") = False := eq_false (by decide +kernel)
theorem v_rest : ∀ a b w, valV (drK a b w) (.inr "rest") = some (.int (W.rest w)) := fun a b w => by simp [valV, drK, kk1, kk3]
theorem v_turn : ∀ a b w, valV (drK a b w) (.inr "turn") = some (.int (W.turn w)) := fun a b w => by simp [valV, drK, kk2, kk4, kk5]
theorem p_rest : ∀ a b w i, putK (drK a b w) (.inr "rest") (V.int i) = drK a b { w with rest := i } ∧ ({ w with rest := i } : W).wide = w.wide ∧ ({ w with rest := i } : W).cells = w.cells := fun a b w i => ⟨by simp [putK, drK, kk1, kk3, kk6], rfl, rfl⟩
theorem p_turn : ∀ a b w i, putK (drK a b w) (.inr "turn") (V.int i) = drK a b { w with turn := i } ∧ ({ w with turn := i } : W).wide = w.wide ∧ ({ w with turn := i } : W).cells = w.cells := fun a b w i => ⟨by simp [putK, drK, kk2, kk4, kk5], rfl, rfl⟩
section
variable {P : Program} {w : World} {K : PySem.W.Frag} {mg : Str → Option Value} {base : Heap}
end
end FD

end sec_FD17
section sec_FD18
set_option maxRecDepth 100000
set_option maxHeartbeats 5000000
/-! FD18: zip; is None; chains; sums and greatest numbers; a sign's place in a text; list times number. -/
namespace FD
open PySem L2
variable [Tabl]
/-! ### zip -/
section
variable {c : Ct} {dr : Dr} {G : Hp}
end
section
variable {X : Cx} {a b e e2 e3 : Expr} {es elts : List Expr} {pos p tpos apos : Pos} {kk : Nat} {fa fb fc fo fe : M RV} {fs : M (List RV)}
/-! ### is None -/
def isNonD (no : Bool) : D → Option RV
  | .non => some (.sh (.bl (!no)))
  | .ty _ => none
  | _ => some (.sh (.bl no))
theorem RepP.isNon {c : Ct} {da : Option Addr} {O : List Addr} {H : Hp} {v : V} {d : D} {no : Bool} {r : RV} (h : RepP c da O H v d) (e : isNonD no d = some r) : r = .sh (.bl (if no then !decide (v = .non) else decide (v = .non))) := by
  cases d with
  | non => cases e; rw [h.non]; cases no <;> rfl
  | bl b => cases e; rw [h.bl]; cases no <;> rfl
  | int i => cases e; rw [h.int]; cases no <;> rfl
  | str x => cases e; rw [h.str]; cases no <;> rfl
  | ty n => cases e
  | draw =>
    cases e
    rcases h with h | ⟨a, o, rfl, _, _⟩
    · cases h; cases no <;> rfl
    · cases no <;> rfl
  | tup ds => cases e; obtain ⟨a, xs, rfl, _⟩ := h.tup; cases no <;> rfl
  | ktup ds => cases e; obtain ⟨a, xs, rfl, _⟩ := h.ktup; cases no <;> rfl
  | lst ds => cases e; obtain ⟨a, xs, rfl, _⟩ := h.lst; cases no <;> rfl
  | scr ns => cases e; obtain ⟨a, rfl, _⟩ := h.scr; cases no <;> rfl
  | dic ps => cases e; obtain ⟨a, kvs, rfl, _⟩ := h.dic; cases no <;> rfl
  | dit ps => cases e; obtain ⟨a, kvs, rfl, _⟩ := h.dit; cases no <;> rfl
  | fdit ps => cases e; obtain ⟨a, ob, kvs, rfl, _⟩ := h.fdit; cases no <;> rfl
  | ins cn gs => cases e; obtain ⟨a, C, dx, fs, rfl, _⟩ := h.ins; cases no <;> rfl
  | exc cn gs =>
    cases e
    rcases h with h | ⟨a, o, rfl, _, _⟩
    · cases h <;> cases no <;> rfl
    · cases no <;> rfl
  | lam i ds =>
    cases e
    rcases h with h | ⟨a, o, rfl, _, _⟩
    · cases h; cases no <;> rfl
    · cases no <;> rfl
theorem isN_read {c : Ct} {F : Fm} {no : Bool} {σ : L2.St} {H : Hp} {Q : VK} (h : tE c F (op1M (isNonD no) fa) σ H Q) : tE c F fa σ H fun x H1 => Q (.bl (if no then !decide (x = .non) else decide (x = .non))) H1 := by
  obtain ⟨O, ρ, w, r, ρ', w', S, e, k⟩ := h
  refine tE_then S e fun x O1 ρ1 w1 H1 r1 S1 e1 R1 h1 => ?_
  obtain ⟨d1, r', p1, eg, ez⟩ := lift1_some h1
  cases ez
  have z := (R1.hold.peek S1 p1).isNon eg
  subst z
  exact k _ O1 H1 S1 e1 (Rep.bl _)
theorem fc_isN {j : Nat} {pos' : Pos} (ha : FE X a fa) : FC X .Is a (.Constant .none j pos') pos (op1M (isNonD false) fa) :=
  ⟨fun F => PE.wk (pe_cmp (pc_isN (ha F)) (nobehind _ (by decide) (by decide))) fun σ H Q h => isN_read (no := false) h,
   fun F => PT.wk (pt_cmp (pc_isN (ha F)) (nobehind _ (by decide) (by decide))) fun σ H Q q => isN_read (no := false) (bool_read q)⟩
end
end FD

end sec_FD18
section sec_FD19
set_option maxRecDepth 100000
set_option maxHeartbeats 5000000
/-! FD19: dicts whose keys are tuples of numbers and texts. -/
namespace FD
open PySem L2
variable [Tabl]
def asKey : D → Option Key
  | .int i => some (.inl i)
  | .str x => some (.inr x)
  | _ => none
def asKeys : List D → Option (List Key)
  | [] => some []
  | d :: r => match asKey d with
    | some k => (match asKeys r with | some ks => some (k :: ks) | none => none)
    | none => none
def keyT : D → Option (List Key)
  | .tup ds => asKeys ds
  | _ => none
theorem asKey_kD (k : Key) : asKey (kD k) = some k := by cases k <;> rfl
theorem asKeys_kD : ∀ ks : List Key, asKeys (ks.map kD) = some ks
  | [] => rfl
  | k :: ks => by
    rw [List.map_cons]
    unfold asKeys
    rw [asKey_kD, asKeys_kD ks]
theorem keyT_kD (ks : List Key) : keyT (.tup (ks.map kD)) = some ks := asKeys_kD ks
theorem asKey_inv {d : D} {k : Key} (h : asKey d = some k) : d = kD k := by
  cases d <;> first | (cases h; rfl) | cases h
theorem asKeys_inv : ∀ {ds : List D} {ks : List Key}, asKeys ds = some ks → ds = ks.map kD
  | [], _, h => by cases h; rfl
  | d :: r, _, h => by
    unfold asKeys at h
    split at h
    · rename_i k e
      split at h
      · rename_i ks e2
        cases h
        rw [asKey_inv e, asKeys_inv e2]
        rfl
      · cases h
    · cases h
theorem keyT_inv {d : D} {ks : List Key} (h : keyT d = some ks) : d = .tup (ks.map kD) := by
  cases d <;> first | (rw [asKeys_inv (show asKeys _ = some ks from h)]) | cases h
def valT (ps : List (D × D)) (k : List Key) : Option D := (ps.find? fun p => decide (keyT p.1 = some k)).map (·.2)
def putT (ps : List (D × D)) (k : List Key) (d : D) : List (D × D) := if (ps.any fun p => decide (keyT p.1 = some k)) = true then ps.map (fun p => if keyT p.1 = some k then (p.1, d) else p) else ps ++ [(.tup (k.map kD), d)]
section
variable {c : Ct} {da : Option Addr} {G : Hp}
theorem RepAll.keys : ∀ {vs : List V} {ks : List Key}, RepAll c da G vs (ks.map kD) → vs = ks.map kV
  | _, [], h => by cases h; rfl
  | _, k :: ks, h => by
    cases h with
    | cons a b =>
      rw [RepAll.keys b]
      cases k <;> cases a <;> rfl
theorem RepKT.val : ∀ {kvs : List (List Key × V)} {ps : List (D × D)}, RepKT c da G kvs ps → ∀ (k : List Key), (valV kvs k = none ∧ valT ps k = none) ∨ ∃ v d, valV kvs k = some v ∧ valT ps k = some d ∧ Rep c da G v d
  | _, _, .nil, k => .inl ⟨rfl, rfl⟩
  | _, _, .cons (k := k0) (v := v) (d := d) h r, k => by
    by_cases e : k0 = k
    · refine .inr ⟨v, d, valV_pos e, ?_, h⟩
      subst e
      simp [valT, List.find?_cons, keyT_kD]
    · rcases RepKT.val r k with ⟨h1, h2⟩ | ⟨v', d', h1, h2, h3⟩
      · refine .inl ⟨by rw [valV_neg e]; exact h1, ?_⟩
        simp only [valT, List.find?_cons, keyT_kD, Option.some.injEq, e, decide_false]
        exact h2
      · refine .inr ⟨v', d', by rw [valV_neg e]; exact h1, ?_, h3⟩
        simp only [valT, List.find?_cons, keyT_kD, Option.some.injEq, e, decide_false]
        exact h2
theorem RepKT.any : ∀ {kvs : List (List Key × V)} {ps : List (D × D)}, RepKT c da G kvs ps → ∀ (k : List Key), (kvs.any fun kv => decide (kv.1 = k)) = ps.any fun p => decide (keyT p.1 = some k)
  | _, _, .nil, k => rfl
  | _, _, .cons (k := k0) h r, k => by
    simp only [List.any_cons, keyT_kD, Option.some.injEq]
    rw [RepKT.any r k]
theorem RepKT.app {kvs ws : List (List Key × V)} {ps qs : List (D × D)} (h : RepKT c da G kvs ps) (h2 : RepKT c da G ws qs) : RepKT c da G (kvs ++ ws) (ps ++ qs) := by
  induction kvs generalizing ps with
  | nil => cases h; exact h2
  | cons kv kvs ih =>
    cases h with
    | cons a b => exact .cons a (ih b)
theorem RepKT.length : ∀ {kvs : List (List Key × V)} {ps : List (D × D)}, RepKT c da G kvs ps → kvs.length = ps.length
  | _, _, .nil => rfl
  | _, _, .cons _ r => by simp [RepKT.length r]
end
/-- a dict that may be read -/
def pairsD : D → Option (List (D × D))
  | .dit ps => some ps
  | .fdit ps => some ps
  | _ => none
theorem RepP.key {c : Ct} {da : Option Addr} {O : List Addr} {H : Hp} {v : V} {d : D} {ks : List Key} (h : RepP c da O H v d) (e : keyT d = some ks) : ∃ b, v = .ref b ∧ H b = some (.tup (ks.map kV)) := by
  have z := keyT_inv e
  subst z
  obtain ⟨a, xs, rfl, q, r⟩ := h.tupH
  rw [r.keys] at q
  exact ⟨a, rfl, vis_ex _ _ q⟩
section
variable {X : Cx} {a b e e2 o : Expr} {es : List Expr} {pos p p2 pos' apos cpos : Pos} {x : Str} {i k : Nat} {fa fb fo fk fv fe : M RV}
/-! ### d[k] -/
/-! ### d.get(k, e) -/
def dgetM (fo fk fe : M RV) : M RV := bindM fo fun r1 => bindM fk fun r2 => bindM fe fun r3 => bindM (escR r3) fun z => lift2 (fun d k => match pairsD d with
  | some ps => (match keyT k with | some ks => some (.sh ((valT ps ks).getD z)) | none => none)
  | none => none) r1 r2
/-- the dict that is asked stands there from the start -/
def dictM (fo : M RV) : M RV := bindM fo fun r => fun ρ w => match peek ρ r with
  | some d => (match pairsD d with | some _ => some (r, ρ, w) | none => none)
  | none => none
/-! ### k in d -/
/-! ### x[k] = v, x a slot's own dict -/
end
end FD

end sec_FD19
section sec_FD20
set_option maxRecDepth 100000
set_option maxHeartbeats 5000000
/-! FD20: a dict that is given away is locked; its keys are walked. -/
namespace FD
open PySem L2
variable [Tabl]
section
variable {c : Ct} {F : Fm} {G : Hp} {O : List Addr} {ρ : Env} {w : W} {σ : L2.St} {H : Hp} {a : Addr} {i : Nat}
theorem SR.drop (S : SR c F O ρ w σ H) (i : Nat) : SR c F O (ρ.set i none) w σ H where
  len := by rw [List.length_set]; exact S.len
  base := S.base
  new := S.new
  sub := S.sub
  drs := S.drs
  trk := S.trk
  draw := S.draw
  val := fun j d h => by
    rcases getElem?_set_some h with ⟨_, z⟩ | ⟨_, h⟩
    · cases z
    · exact S.val j d h
  own := fun j d h => by
    rcases getElem?_set_some h with ⟨_, z⟩ | ⟨_, h⟩
    · cases z
    · exact S.own j d h
  uni := fun j j' d d' b h h' => by
    rcases getElem?_set_some h with ⟨_, z⟩ | ⟨_, h⟩
    · cases z
    · rcases getElem?_set_some h' with ⟨_, z⟩ | ⟨_, h'⟩
      · cases z
      · exact S.uni j j' d d' b h h'
end
section
variable {X : Cx} {a b e e2 o : Expr} {es : List Expr} {pos p p2 pos' apos cpos : Pos} {x : Str} {i k : Nat} {fa fb fo fk fv fe : M RV} {tg : Expr}
/-! ### k in d, k not in d -/
/-! ### for k in d, d locked -/
end
end FD

end sec_FD20
section sec_DC
set_option maxRecDepth 100000
set_option maxHeartbeats 5000000
/-! DC: {k: v for ..} whose keys are tuples of numbers and texts. -/
namespace DC
open PySem PySem.Spec PyProof.Rows L2
section
variable {X : Cx}
section
variable {kx vx tg iter : Expr} {ifs : List Expr} {scope : Scope} {own : List (Str × Nat)} {pos : Pos} {wi : TI} {g : TG} {tt : TT} {tk tv : TE}
end
end
end DC

end sec_DC
section sec_DV
set_option maxRecDepth 100000
set_option maxHeartbeats 5000000
/-! DV: list(d.values()) of a dict with tuple keys. -/
namespace DV
open PySem PySem.Spec PyProof.Rows L2
open PySem.W (KdlSrc)
/-- what is drawn from the entries, one by one, are the values -/
theorem told {P : Program} {w : World} {es : Array DictEntry} {xs : List (List Key × Addr × Value)} {out : List Value} (hent : es.toList = xs.map (entryOfKey (tupleKind (mixKind P w)))) (n : out.length = xs.length) (each : ∀ j v, out[j]? = some v → ∃ h : j < es.size, v = es[j].val) : out = xs.map fun x => x.2.2 := by
  apply List.ext_getElem (by simpa using n)
  intro j h1 h2
  obtain ⟨lt, e⟩ := each j _ (List.getElem?_eq_getElem h1)
  have at_ := entry_at hent j
  have lx : j < xs.length := by simpa using h2
  rw [Array.getElem?_eq_getElem lt, List.getElem?_eq_getElem lx] at at_
  rw [e, Option.some.inj at_, List.getElem_map]
  rfl
section
variable {X : Cx} {e : Expr} {te : TE} {p pos apos cpos : Pos}
end
end DV

end sec_DV
section sec_FD21
set_option maxRecDepth 100000
set_option maxHeartbeats 5000000
/-! FD21: dict comprehensions with tuple keys, list(d.values()), len(d). -/
namespace FD
open PySem L2
variable [Tabl]
def dcTurn (asg : D → M Unit) (test : M Bool) (fk fv : M RV) (d : D) (acc : List (D × D)) : M (List (D × D)) := bindM (asg d) fun _ => bindM test fun b => if b then bindM fk fun r1 => bindM fv fun r2 => bindM (escR r2) fun z => fun ρ w => (match peek ρ r1 with
  | some kd => (match keyT kd with
    | some ks => some (putT acc ks z, ρ, w)
    | none => none)
  | none => none) else pureM acc
section
variable {c : Ct} {F : Fm} {σ : L2.St} {H : Hp} {Q : VK}
end
section
variable {X : Cx} {kx vx tg iter o : Expr} {ifs : List Expr} {scope : Scope} {own : List (Str × Nat)} {pos p apos cpos : Pos} {fi : M (List D)} {js : List Nat} {g : D → M Unit} {tt : M Bool} {fk fv fo : M RV} {k : Nat}
/-! ### list(d.values()) -/
def valsM (fo : M RV) : M RV := bindM fo fun r => fun ρ w => match peek ρ r with
  | some d => (match pairsD d with
    | some ps => some (.fr (.lst (ps.map (·.2))), ρ, w)
    | none => none)
  | none => none
end
end FD

end sec_FD21
section sec_FD22
set_option maxRecDepth 100000
set_option maxHeartbeats 5000000
/-! FD22: len of a dict, sum and max of a list, list * int, x.index(y) of texts. -/
namespace FD
open PySem L2
variable [Tabl]
section
variable {X : Cx}
def top : List Int → Int
  | [] => 0
  | [a] => a
  | a :: b :: r => if a < top (b :: r) then top (b :: r) else a
/-! ### xs * n -/
def repD : D → D → Option RV
  | .lst ds, .int n => if n ≤ 1000 ∧ -1000 ≤ n ∧ ds.length ≤ 1000 then some (.fr (.lst (List.replicate n.toNat ds).flatten)) else none
  | _, _ => none
theorem RepAll.rep {c : Ct} {da : Option Addr} {G : Hp} {vs : List V} {ds : List D} (h : RepAll c da G vs ds) : ∀ n : Nat, RepAll c da G (List.replicate n vs).flatten (List.replicate n ds).flatten
  | 0 => .nil
  | n + 1 => by
    rw [List.replicate_succ, List.replicate_succ, List.flatten_cons, List.flatten_cons]
    exact h.append (RepAll.rep h n)
theorem opD_rep : OpR X (binaryOp .Mult) (rP2 (ct X) repD) := by
  rintro pins s σ H x y v u Q I rx ry ⟨da, O, d1, d2, r, hO, p1, p2, eg, q⟩
  unfold repD at eg
  split at eg
  · split at eg
    · rename_i ds n hc
      cases eg
      obtain ⟨a, vs, rfl, at_, ra⟩ := p1.lst
      obtain rfl := p2.int
      have l := ra.length
      refine op_rep pins s σ H _ _ v u Q I rx ry ⟨a, n, vs, rfl, rfl, at_, by omega, by omega, ?_, fun p np => q _ _ (Ex.new np) (repN_lst np (RepAll.rep ra _))⟩
      have : vs.length * n.toNat ≤ 1000 * 1000 := Nat.mul_le_mul (by omega) (by omega)
      exact small_fits this
    · cases eg
  · cases eg
/-! ### x.index(y) -/
end
end FD

end sec_FD22
section sec_FD23
set_option maxRecDepth 100000
set_option maxHeartbeats 5000000
/-! FD23: (*a, *b). -/
namespace FD
open PySem L2
variable [Tabl]
section
variable {X : Cx} {a b : Expr} {pos p p2 : Pos} {fa fb : M RV} {x1 : Nat}
def starM (fa fb : M RV) : M RV := bindM fa fun r1 => bindM (escR r1) fun d1 => bindM fb fun r2 => bindM (escR r2) fun d2 => fun ρ w => match seqD d1, seqD d2 with
  | some xs, some ys => if xs.length + ys.length ≤ 1000000 then some (.sh (.tup (xs ++ ys)), ρ, w) else none
  | _, _ => none
/-- a sequence, as it stands in the heap -/
theorem Rep.seq {c : Ct} {da : Option Addr} {O : List Addr} {H : Hp} {v : V} {d : D} {ds : List D} (h : Rep c da (vis O H) v d) (e : seqD d = some ds) : ∃ a vs, v = .ref a ∧ (SqT c.K H a vs ∨ SqL c.K H a vs) ∧ RepAll c da (vis O H) vs ds := by
  cases h with
  | lst s r =>
    cases e
    exact ⟨_, _, rfl, .inr (vis_ex.sl (SqL.of s)), r⟩
  | tup s r =>
    cases e
    exact ⟨_, _, rfl, .inl (.inl (.inl (vis_ex _ _ s))), r⟩
  | ktup s r =>
    cases e
    exact ⟨_, _, rfl, .inl (vis_ex.st s), r⟩
  | _ => cases e
end
end FD

end sec_FD23
section sec_FD24
set_option maxRecDepth 100000
set_option maxHeartbeats 5000000
/-! FD24: x[k] = v, x a slot's own list. -/
namespace FD
open PySem L2
variable [Tabl]
section
variable {X : Cx} {e e2 : Expr} {pos p pos' : Pos} {x : Str} {i : Nat} {fk fv : M RV}
end
end FD

end sec_FD24
section sec_FD25
set_option maxRecDepth 100000
set_option maxHeartbeats 5000000
/-! FD25: either of two operations; x in a list; x or y by truth; chains; own __len__, __getitem__, own operators. -/
namespace FD
open PySem L2
variable [Tabl]
section
variable {X : Cx} {a b e e2 c1 o : Expr} {rest : List Expr} {pos p p2 : Pos} {fa fb fc fe : M RV} {k j : Nat} {cn : Str}
/-! ### x or y, by truth: texts and numbers -/
def truD : D → Option Bool
  | .non => some false
  | .bl b => some b
  | .int i => some (i != 0)
  | .str y => if y.length ≤ 1000000 then some ((y.length : Int) != 0) else none
  | _ => none
def orVM (fa fb : M RV) : M RV := bindM fa fun r => match r with
  | .sh d => (match truD d with
    | some true => pureM (.sh d)
    | some false => fb
    | none => failM)
  | _ => failM
/-! ### a < b < c -/
def chM (g g' : D → D → Option RV) (fa fb fc : M RV) : M RV := bindM fa fun r1 => bindM fb fun r2 => bindM (lift2 g r1 r2) fun z => match z with
  | .sh (.bl true) => bindM fc fun r3 => lift2 g' r2 r3
  | .sh (.bl false) => pureM (.sh (.bl false))
  | _ => failM
/-! ### own special methods -/
/-- the class cn has the own special method nm -/
structure SpcD (P : Program) (w : World) (K : PySem.W.Frag) (mg : Str → Option Value) (base : Heap) (k : Nat) (cn nm : Str) (n : Nat) (den : List D → W → Option (RV × W)) : Prop where
  ex : ∃ (C f : Addr) (fd : FuncData) (ps : List Str), mg cn = some (.ref C) ∧ PySem.W.selfFirst K C = true ∧ PySem.W.findIn K (.ref C) nm = some (some (.ref f)) ∧ PySem.W.isFn K (.ref f) = true ∧ PySem.W.fnIn K f = true ∧ FnOk P w K mg base CX0 k f fd ps (spD ⟨K, mg⟩ n den) ∧ Binds K fd ps []
/-- an instance of cn that is given away -/
def insR (cn : Str) (r : RV) : M D := bindM (escR r) fun d => match d with
  | .ins c' gs => if c' = cn then pureM d else failM
  | _ => failM
/-- len(o) -/
def lenOM (cn : Str) (den : List D → W → Option (RV × W)) (fa : M RV) : M RV := bindM fa fun r => bindM (insR cn r) fun d => bindM (runD den [d]) fun z => match z with
  | .sh (.int n) => if 0 ≤ n ∧ n ≤ 1000000 then pureM (.sh (.int n)) else failM
  | _ => failM
end
end FD

end sec_FD25
section sec_FD26
set_option maxRecDepth 100000
set_option maxHeartbeats 5000000
/-! FD26: len(o), o[i], a op b by own special methods. -/
namespace FD
open PySem L2
variable [Tabl]
section
variable {X : Cx} {a b e e2 c1 o : Expr} {rest : List Expr} {pos p p2 : Pos} {fa fb fc fe : M RV} {k j : Nat} {cn : Str} {den : List D → W → Option (RV × W)}
/-! ### a op b -/
def opOM (cn : Str) (den : List D → W → Option (RV × W)) (fa fb : M RV) : M RV := bindM fa fun r1 => bindM fb fun r2 => bindM (insR cn r1) fun d1 => bindM (insR cn r2) fun d2 => runD den [d1, d2]
/-! ### o[i] -/
def ixOM (cn : Str) (den : List D → W → Option (RV × W)) (fa fb : M RV) : M RV := bindM fa fun r1 => bindM fb fun r2 => bindM (insR cn r1) fun d1 => bindM (escR r2) fun d2 => runD den [d1, d2]
end
end FD

end sec_FD26
section sec_FD27
set_option maxRecDepth 100000
set_option maxHeartbeats 5000000
/-! FD27: [elt for a in x if .. for b in y if ..]. -/
namespace FD
open PySem L2
variable [Tabl]
theorem wipeE_get {ρ : Env} {i : Nat} {s : Slot} : ∀ {vs : List Nat}, (wipeE ρ vs)[i]? = some (some s) → i ∉ vs ∧ ρ[i]? = some (some s)
  | [], h => ⟨by simp, h⟩
  | v :: vs, h => by
    unfold wipeE at h
    rcases getElem?_set_some h with ⟨rfl, z⟩ | ⟨n, h⟩
    · cases z
    · obtain ⟨m, q⟩ := wipeE_get h
      exact ⟨fun z => (List.mem_cons.mp z).elim (fun y => n y.symm) m, q⟩
/-- a list at Dl grows while expressions run: what stands between two of them -/
structure Grw (c : Ct) (F : Fm) (Dl : Addr) (G : Hp) (σ : L2.St) (O : List Addr) (ρ : Env) (w : W) (H : Hp) (acc : List V) (dacc : List D) : Prop where
  sr : SR c F O ρ w σ H
  mem : Dl ∈ O
  nu : NoSlot ρ σ Dl
  at_ : H Dl = some (.lst acc)
  rep : RepAll c F.dr.da (vis O H) acc dacc
  ex : Ex G (vis O H)
  nF : Dl ∉ F.O0
  n0 : F.H0 Dl = none
  drs : ∀ a ∈ F.dr.as, a ∈ F.O0
section
variable {c : Ct} {F : Fm} {Dl : Addr} {G : Hp} {σ σ' : L2.St} {O O' : List Addr} {ρ ρ' : Env} {w w' : W} {H H' : Hp} {acc : List V} {dacc : List D}
theorem Grw.wipe (g : Grw c F Dl G σ O ρ w H acc dacc) (vs : List Nat) : Grw c F Dl G (L2.wipe σ vs) O (wipeE ρ vs) w H acc dacc where
  sr := g.sr.wipe vs
  mem := g.mem
  nu := fun j e q z => by
    obtain ⟨m, q⟩ := wipeE_get q
    rw [wipe_out m] at z
    exact g.nu j e q z
  at_ := g.at_
  rep := g.rep
  ex := g.ex
  nF := g.nF
  n0 := g.n0
  drs := g.drs
theorem Grw.grow (g : Grw c F Dl G σ O ρ w H acc dacc) (x : Ex H H') : Grw c F Dl G σ O ρ w H' acc dacc where
  sr := g.sr.grow x
  mem := g.mem
  nu := g.nu
  at_ := x _ _ g.at_
  rep := g.rep.mono (vis_mono x)
  ex := g.ex.trans (vis_mono x)
  nF := g.nF
  n0 := g.n0
  drs := g.drs
theorem Grw.in (g : Grw c F Dl G σ O ρ w H acc dacc) : SR c (F.and Dl (.lst acc)) O ρ w σ H := hide_in g.sr g.mem g.nF g.nu g.at_
theorem Grw.out (g : Grw c F Dl G σ O ρ w H acc dacc) (S : SR c (F.and Dl (.lst acc)) O' ρ' w' σ' H') (x : Ex (vis O H) (vis O' H')) : Grw c F Dl G σ' O' ρ' w' H' acc dacc := by
  obtain ⟨S2, q2, m2, u2⟩ := S.out g.nF g.n0 g.drs
  exact ⟨S2, m2, u2, q2, g.rep.mono x, g.ex.trans x, g.nF, g.n0, g.drs⟩
theorem Grw.add (g : Grw c F Dl G σ O ρ w H acc dacc) {v : V} {d : D} (r : Rep c F.dr.da (vis O H) v d) : Grw c F Dl G σ O ρ w (upd H Dl (.lst (acc ++ [v]))) (acc ++ [v]) (dacc ++ [d]) where
  sr := g.sr.poke g.at_ (fun _ z => nomatch z) g.mem g.nF g.nu (.lst (acc ++ [v]))
  mem := g.mem
  nu := g.nu
  at_ := upd_same
  rep := by
    rw [vis_upd g.mem]
    exact g.rep.snoc r
  ex := by
    rw [vis_upd g.mem]
    exact g.ex
  nF := g.nF
  n0 := g.n0
  drs := g.drs
end
section
variable {c : Ct} {F : Fm} {σ : L2.St} {H : Hp} {Q : VK}
end
section
variable {X : Cx} {elt tg iter tg1 iter1 : Expr} {ifs ifs1 : List Expr} {scope : Scope} {own : List (Str × Nat)} {vs1 : List Nat} {pos spos py : Pos} {fi fi1 : M (List D)} {js js1 : List Nat} {g g1 : D → M Unit} {tt tt1 : M Bool} {fe : M RV} {i : Nat} {y : Str}
end
end FD

end sec_FD27
section sec_FD28
set_option maxRecDepth 100000
set_option maxHeartbeats 5000000
/-! FD28: repr of plain values. -/
namespace FD
open PySem L2
variable [Tabl]
section
variable {X : Cx}
def reprS : List D → Option RV
  | [.non] => some (.sh (.str "None"))
  | [.bl b] => some (.sh (.str (if b then "True" else "False")))
  | [.int i] => if i.natAbs.log2 < 1920 then some (.sh (.str (toString i))) else none
  | [.str x] => if (reprText x).length ≤ 1000000 then some (.sh (.str (reprText x))) else none
  | _ => none
theorem bD_reprS : CallR X (.builtin "repr") (rPure (ct X) reprS) := by
  intro pins s σ H xs us Q I r h
  obtain ⟨da, O, ds, rv, hO, p, eg, q⟩ := h
  unfold reprS at eg
  split at eg
  · cases eg
    obtain ⟨v, rfl, P⟩ := p.one
    rw [P.non] at r
    cases r with
    | cons r1 rr =>
      cases rr
      cases r1
      exact PySem.P.repr_of_none ⟨.str _, H, I.tok _, ⟨_, rfl⟩, q _ _ (Ex.refl _) (.str _)⟩
  · cases eg
    obtain ⟨v, rfl, P⟩ := p.one
    rw [P.bl] at r
    cases r with
    | cons r1 rr =>
      cases rr
      cases r1
      exact PySem.P.repr_of_bool ⟨.str _, H, I.tok _, ⟨_, rfl⟩, q _ _ (Ex.refl _) (.str _)⟩
  · split at eg
    · rename_i hl
      cases eg
      obtain ⟨v, rfl, P⟩ := p.one
      rw [P.int] at r
      cases r with
      | cons r1 rr =>
        cases rr
        obtain ⟨t, rfl⟩ := r1
        exact PySem.P.repr_of_int hl ⟨.str _, H, I.tok _, ⟨_, rfl⟩, q _ _ (Ex.refl _) (.str _)⟩
    · cases eg
  · split at eg
    · rename_i hl
      cases eg
      obtain ⟨v, rfl, P⟩ := p.one
      rw [P.str] at r
      cases r with
      | cons r1 rr =>
        cases rr
        obtain ⟨t, rfl⟩ := r1
        exact PySem.P.repr_of_str ⟨.str _, H, I.tok _, ⟨_, rfl⟩, q _ _ (Ex.refl _) (.str _)⟩ (small_fits hl)
    · cases eg
  · cases eg
def orN (g1 g2 : List D → Option RV) (ds : List D) : Option RV := match g1 ds with
  | some r => some r
  | none => g2 ds
theorem bD_or {f : Value} {g1 g2 : List D → Option RV} (h1 : CallR X f (rPure (ct X) g1)) (h2 : CallR X f (rPure (ct X) g2)) : CallR X f (rPure (ct X) (orN g1 g2)) := by
  intro pins s σ H xs us Q I r h
  obtain ⟨da, O, ds, rv, hO, p, eg, q⟩ := h
  unfold orN at eg
  split at eg
  · rename_i e
    cases eg
    exact h1 pins s σ H xs us Q I r ⟨da, O, ds, _, hO, p, e, q⟩
  · exact h2 pins s σ H xs us Q I r ⟨da, O, ds, rv, hO, p, eg, q⟩
end
end FD

end sec_FD28
section sec_FD29
set_option maxRecDepth 100000
set_option maxHeartbeats 5000000
/-! FD29: a, b = x, y by a tuple that is taken apart (some of the names are cells): what is new stays new. -/
namespace FD
open PySem L2
variable [Tabl]
theorem Got.grow {c : Ct} {da : Option Addr} {O : List Addr} {H H' : Hp} (e : Ex H H') : ∀ {P : List Addr} {rs : List RV} {vs : List V}, Got c da O H P rs vs → Got c da O H' P rs vs
  | _, _, _, .nil => .nil
  | _, _, _, .sh h r => .sh (h.mono (vis_mono e)) (Got.grow e r)
  | _, _, _, .fr h1 h2 h3 h4 r => .fr h1 h2 (e _ _ h3) (h4.mono (vis_mono e)) (Got.grow e r)
section
variable {X : Cx} {e : Expr} {es ts : List Expr} {pos p pt pt2 : Pos} {x : Str} {i kt k2 : Nat} {is : List Nat} {fp : M (List RV)}
end
end FD

end sec_FD29
section sec_FD30
set_option maxRecDepth 100000
set_option maxHeartbeats 5000000
/-! FD30: o.m(k = e, ..), every parameter by its name, in order. -/
namespace FD
open PySem L2
variable [Tabl]
structure FK (X : Cx) (kws : List Keyword) (f : M (List RV)) : Prop where
  run : ∀ F, PK X kws (tA (ct X) F f)
  len : ∀ ρ w rs ρ' w', f ρ w = some (rs, ρ', w') → rs.length = kws.length
theorem PK.wk {X : Cx} {kws : List Keyword} {t t' : TA} (h : PK X kws t) (k : ∀ σ H Q, t' σ H Q → t σ H Q) : PK X kws t' := ⟨fun p pins s σ H Q I q => h.run p pins s σ H Q I (k σ H Q q)⟩
/-- a method whose parameters are given by name -/
structure MkwD (P : Program) (w : World) (K : PySem.W.Frag) (mg : Str → Option Value) (base : Heap) (k : Nat) (cn m : Str) (n : Nat) (ks : List Str) (den : List D → W → Option (RV × W)) : Prop where
  ex : ∃ (C f : Addr) (fd : FuncData) (ps : List Str), mg cn = some (.ref C) ∧ Cls K C ∧ Meth K C m f ∧ FnOk P w K mg base CX0 k f fd ps (spD ⟨K, mg⟩ n den) ∧
    ∀ (s : Shared) (self : Value) (ws : List Value), (self :: ws).length = ps.length → BindsTo s fd ⟨[self], ks.zip ws⟩ (ps.zip (self :: ws))
section
variable {X : Cx} {e o : Expr} {kws : List Keyword} {pos apos kpos : Pos} {m cn : Str} {nm : Option Str} {k j n : Nat} {ks : List Str} {den : List D → W → Option (RV × W)} {fa g : M (List RV)} {fo fe : M RV}
theorem fk_nil : FK X [] (pureM []) := ⟨fun F => PK.wk pk_nil fun σ H Q q => by
  obtain ⟨O, ρ, w, r, ρ', w', S, e, k⟩ := q
  cases e
  exact k [] O H S (Ex.refl _) .nil, fun ρ w rs ρ' w' h => by cases h; rfl⟩
theorem fk_cons (ha : FE X e fe) (hr : FK X kws g) : FK X (⟨nm, e, kpos⟩ :: kws) (consA fe g) := ⟨fun F => PK.wk (pk_cons (ha F) (hr.run F)) fun σ H Q q => by
  obtain ⟨O, ρ, w, r, ρ', w', S, e, k⟩ := q
  refine tE_then S e fun x O1 ρ1 w1 H1 r1 S1 e1 R1 h1 => ?_
  refine tA_then S1 h1 fun vs O2 ρ2 w2 H2 rs S2 e2 R2 _ h2 => ?_
  cases h2
  exact k (x :: vs) O2 H2 S2 (e1.trans e2) (.cons (R1.hold.mono e2) R2), fun ρ w rs ρ' w' h => by
    obtain ⟨r, ρ1, w1, _, h1⟩ := bindM_some h
    obtain ⟨rs', ρ2, w2, h2, h3⟩ := bindM_some h1
    cases h3
    simp [hr.len _ _ _ _ _ h2]⟩
end
end FD

end sec_FD30
section sec_FD31
set_option maxRecDepth 100000
set_option maxHeartbeats 5000000
/-! FD31: x.clear(), x.reverse(), e[::-1]. -/
namespace FD
open PySem L2
variable [Tabl]
section
variable {X : Cx} {e : Expr} {p apos cpos p1 p2 p3 pos : Pos} {x : Str} {i k : Nat} {fe : M RV}
end
end FD

end sec_FD31
section sec_FD32
set_option maxRecDepth 100000
set_option maxHeartbeats 5000000
/-! FD32: defs that are called where no repr is under way (repr of lists inside a def). -/
namespace FD
open PySem L2
open PyProof.Rows (envOfC)
variable [Tabl]
structure CalG (P : Program) (w : World) (K : PySem.W.Frag) (mg : Str → Option Value) (base : Heap) (k : Nat) (x : Str) (n : Nat) (den : List D → W → Option (RV × W)) : Prop where
  ex : ∃ (f : Addr) (fd : FuncData) (ps : List Str), LG.FnG P w K mg base k f fd ps (spD ⟨K, mg⟩ n den) ∧ mg x = some (.ref f) ∧ PySem.W.keepIn K (.ref f) = true ∧ Binds K fd ps []
section
variable {X : Cx} {k j n : Nat} {f : Addr} {fd : FuncData} {ps : List Str} {sp : Sp} {x : Str} {p pos : Pos} {e : Expr} {es : List Expr} {t : TA} {den : List D → W → Option (RV × W)} {fa : M (List RV)}
theorem run_G {pins : List (Addr × PySem.Obj)} {σ : L2.St} {H : Hp} {s : Shared} {Q : VK} {us : List Value} {vs : List V} (F : LG.FnG X.prog X.w X.K X.mg X.base k f fd ps sp) (hr : Room k X.A) (hG : X.A.guards = some []) (hb : Binds X.K fd ps [])
    (I : Inv X pins σ H s) (r : Vals vs us) (h : sp vs H Q E0) : wpAny (model X.prog X.w) X.A (call (.ref f) us) (EP X pins σ Q) X.xe s := by
  have b1 := hb s us I.kIn (by rw [List.append_nil, ← r.length]; exact F.len vs H Q E0 h)
  rw [List.append_nil] at b1
  refine wpAny_call (codeAny_mono (F.runs X.A hr hG X.stack s H ⟨us, []⟩ us vs Q E0 I.env0 b1 r h) fun z s' hq => ?_)
  match z, hq with
  | .error e, hq => exact pass0 pins σ H s e s' I hq
  | .ok (.ret u), hq => exact I.after hq
theorem pe_callG (F : LG.FnG X.prog X.w X.K X.mg X.base k f fd ps sp) (hr : Room k X.A) (hG : X.A.guards = some []) (hg : Gl X x) (hm : X.mg x = some (.ref f)) (hk : PySem.W.keepIn X.K (.ref f) = true) (hb : Binds X.K fd ps [])
    (ha : PA X (e :: es) t) (hdb : NotDebug x) (he : Plain1 X e es) (hpl : PlainR X es pos) : PE X (.Call (.Name x p) (e :: es) [] pos) (fun σ H Q => t σ H fun vs H1 => sp vs H1 Q E0) := ⟨fun pins s σ H Q I h =>
  wpAny_Call_Name_kw (ld_glob I hg hm (PySem.W.callWith_K (h₀ := X.base) I.ok.mod.kin hk (thn (ha.run pos pins s σ H _ I h) fun us s1 ⟨vs, H1, I1, r, q⟩ => ⟨I1.kIn, run_G F hr hG hb I1 r q⟩) he hpl) hdb)⟩
theorem fe_callG (cl : CalG X.prog X.w X.K X.mg X.base k x n den) (hr : Room j X.A) (hG : X.A.guards = some []) (hg : Gl X x) (ha : FA X (e :: es) fa) (hk : k ≤ j := by decide) (hn : (e :: es).length = n := by rfl)
    (hdb : NotDebug x := by decide) (he : Plain1 X e es := by rfl) (hpl : PlainR X es pos := by rfl) : FE X (.Call (.Name x p) (e :: es) [] pos) (callM den [] fa) := fun F => by
  obtain ⟨f, fd, ps, FO, hm, kp, b⟩ := cl.ex
  refine PE.wk (pe_callG FO (hr.mono hk) hG hg hm kp b (ha.run F) hdb he hpl) fun σ H Q q => ?_
  obtain ⟨O, ρ, w, r, ρ', w', S, e, k⟩ := q
  refine tA_then S e fun vs O1 ρ1 w1 H1 rs S1 e1 R1 f1 h1 => ?_
  obtain ⟨ds1, ρ2, w2, h2, h3⟩ := bindM_some h1
  obtain ⟨rfl, O2, S2, k2, r2⟩ := escAll_ok S1 R1 h2
  obtain ⟨r', w3, h4, ez⟩ := runD_some h3
  cases ez
  rw [List.append_nil] at h4
  refine sp_of (E := E0) S2 r2 ?_ h4 fun v H' S3 e3 R3 => k v O2 H' S3 ((e1.trans k2).trans e3) (R3.less (e1.trans k2))
  rw [r2.len2, ← R1.length, ha.len _ _ _ _ _ f1]
  exact hn
end
section
variable {P : Program} {w : World} {K : PySem.W.Frag} {mg : Str → Option Value} {base : Heap}
theorem def_okGL {x qual : Str} {st : Stmt} {f : Addr} {fd : FuncData} {N ps : List Str} {k : Nat} {fb : M Fl} (F : Fun K x qual st f fd) (S : FnScope N ps (defScope st))
    (hb : ∀ (cdv : Value), (∃ (oc : Value) (od : Option Addr) (kV doc pm : Value) (an : Option Addr) (ct : Value) (osl : Array (Option Value)), K.lookup f = some ⟨oc, od, .func (PySem.W.fnOf x qual (defArgs st) (defBody st) (defScope st) .none kV doc pm an cdv ct), osl⟩) → ∀ (A : Around) (outer : List PySem.Env) (s : Shared) (H : Hp) (E : XK), Room k (A.deeper (envOfC qual (defScope st) s.heap.objs.size f cdv)) → A.guards = some [] → FSs (cxOf CX0 P w K mg base N qual (defScope st) f cdv A outer s H E).nox (defBody st) fb) :
    LG.FnG P w K mg base (k + 1) f fd ps (spD ⟨K, mg⟩ ps.length (denB N.length fb)) := by
  obtain ⟨oc, od, kV, doc, pm, an, cdv, ctt, osl, rfl, lk, hcd⟩ := F.ex
  have len : ∀ vs H Q E, spD ⟨K, mg⟩ ps.length (denB N.length fb) vs H Q E → vs.length = ps.length := fun _ _ _ _ h => by
    obtain ⟨_, _, _, _, _, _, _, _, _, h4, h5, _⟩ := h
    rw [h4.length, h5]
  refine ⟨len, fun A room hG => LG.runs_of lk hcd S len room fun outer s H vs Q E h => ?_⟩
  obtain ⟨dr, O0, wd, ds, r, w', h1, h2, h3, h4, h5, h6, k6⟩ := h
  refine ⟨_, PSs.nox (hb cdv ⟨oc, od, kV, doc, pm, an, ctt, osl, lk⟩ A outer s H E (room.deeper _) hG ⟨dr, O0, H⟩), ?_⟩
  unfold denB at h6
  match e : fb (startE N.length ds) wd, h6 with
  | none, h6 => cases h6
  | some (fl, ρ', w2), h6 =>
    refine ⟨O0, _, wd, fl, ρ', w2, start_sr h1 h2 h3 h4, e, ?_⟩
    match fl, h6 with
    | .nx, h6 =>
      cases h6
      exact fun σ O H' S' _ => k6 .non H' (fun a o q n => S'.base a o q n) S'.draw .non
    | .ret r1, h6 =>
      intro v σ O H' S' R'
      have h7 : (outR ρ' r1).map (fun r' => (r', w2)) = some (r, w') := h6
      obtain ⟨r2, q, ez⟩ := Option.map_eq_some_iff.mp h7
      cases ez
      exact k6 v H' (fun a o q n => S'.base a o q n) S'.draw (outR_ok S' R' q)
theorem def_okGT {ca : Addr} {x qual : Str} {st : Stmt} {f : Addr} {fd : FuncData} {N ps : List Str} {k : Nat} {fb : M Fl} (F : Fun K x qual st f fd) (S : FnScope N ps (defScope st))
    (hcd : ∀ oc od kV doc pm an cdv ct osl, K.lookup f = some ⟨oc, od, .func (PySem.W.fnOf x qual (defArgs st) (defBody st) (defScope st) .none kV doc pm an cdv ct), osl⟩ → cdv = .ref ca)
    (hb : ∀ (A : Around) (outer : List PySem.Env) (s : Shared) (H : Hp) (E : XK), Room k (A.deeper (envOfC qual (defScope st) s.heap.objs.size f (.ref ca))) → A.guards = some [] → FSs (cxOf CX0 P w K mg base N qual (defScope st) f (.ref ca) A outer s H E).nox (defBody st) fb) :
    LG.FnG P w K mg base (k + 1) f fd ps (spD ⟨K, mg⟩ ps.length (denB N.length fb)) := def_okGL F S fun cdv ⟨oc, od, kV, doc, pm, an, ct, osl, lk⟩ => by
  obtain rfl := hcd _ _ _ _ _ _ _ _ _ lk
  exact hb
end
end FD

end sec_FD32
section sec_FD33
set_option maxRecDepth 100000
set_option maxHeartbeats 5000000
/-! FD33: repr of small dicts. -/
namespace FD
open PySem L2
variable [Tabl]
section
variable {X : Cx} {pins : List (Addr × PySem.Obj)} {σ : L2.St} {H : Hp} {s : Shared}
theorem keyStr {x : Str} {v : Value} (h : keyIs (.inr x) v = true) : ∃ t, v = .str x t := by
  rcases keyIs_shape h with ⟨i, t, e, _⟩ | ⟨y, t, e, rfl⟩
  · cases e
  · cases e
    exact ⟨t, rfl⟩
theorem dic_reads {a : Addr} {kvs : List (Key × V)} (I : Inv X pins σ H s) (e : H a = some (.dK kvs)) : (kvs = [] → ∃ as, Reads s.heap (.ref a) (.dict []) as ∧ sysModules ∉ as) ∧ ∀ x i, kvs = [(.inr x, .int i)] → ∃ as, Reads s.heap (.ref a) (.dict [(.str x, .int i)]) as ∧ sysModules ∉ as := by
  obtain ⟨_, ns, vs, kv, o, es, ep, ho, hx, hd, _, pr, _⟩ := dk_of I.hok e
  have ne : sysModules ≠ a := fun z => by
    rw [← z] at ns
    simp at ns
  constructor
  · rintro rfl
    cases kv
    generalize hl : es.toList = l at pr
    cases pr
    exact ⟨_, .dict (kvs := []) ho hx.1 hd (by rw [hl]; exact .nil) (by rw [hl]; exact .nil), by simpa using ne⟩
  · rintro x i rfl
    cases kv with
    | cons q1 q2 =>
      cases q2
      generalize hl : es.toList = l at pr
      cases pr with
      | cons k1 k2 k3 =>
        cases k3
        rename_i bb nd en
        obtain ⟨bk, bv⟩ := bb
        obtain ⟨j1, u, j2⟩ := q1
        have j1' : (Sum.inr x : Key) = bk := j1
        subst j1'
        obtain ⟨t, ek⟩ := keyStr (x := x) (v := en.key) k1
        have ev : en.val = .int i u := k2.trans j2
        have r1 : Reads s.heap en.key (.str x) [] := by
          rw [ek]
          exact .str x t
        have r2 : Reads s.heap en.val (.int i) [] := by
          rw [ev]
          exact .int i u
        exact ⟨_, .dict (kvs := [(.str x, .int i)]) (as := [] ++ []) (bs := [] ++ []) ho hx.1 hd (by rw [hl]; exact .cons r1 .nil) (by rw [hl]; exact .cons r2 .nil), by simpa using ne⟩
end
end FD

end sec_FD33
section sec_FD34
set_option maxRecDepth 100000
set_option maxHeartbeats 5000000
/-! FD34: repr([e, ..]), whose items stay with their owners. -/
namespace FD
open PySem L2
variable [Tabl]
section
variable {X : Cx} {es : List Expr} {p p2 pos : Pos} {fa : M (List RV)} {k : Nat}
end
end FD

end sec_FD34
section sec_FD35
set_option maxRecDepth 100000
set_option maxHeartbeats 5000000
/-! FD35: lists and tuples of flat items: x in y, l.count(x), l.index(x). -/
namespace FD
open PySem L2
variable [Tabl]
section
variable {X : Cx}
def isLst (r : RV) : M Unit := fun ρ w => match peek ρ r with
  | some (.lst _) => some ((), ρ, w)
  | _ => none
def lmM (g : D → D → Option RV) (fo fe : M RV) : M RV := bindM fo fun r1 => bindM (isLst r1) fun _ => bindM fe fun r2 => lift2 g r1 r2
variable {o e : Expr} {fo fe : M RV} {apos cpos : Pos} {name : Str} {id : String} {rr : V → List V → Hp → VK → Prop} {g : D → D → Option RV}
end
end FD

end sec_FD35
section sec_FD36
set_option maxRecDepth 100000
set_option maxHeartbeats 5000000
/-! FD36: f(.., x, ..) where x is an owned list that f only reads: what comes out holds tuples and flat values alone, x stays owned. -/
namespace FD
open PySem L2
variable [Tabl]
mutual
def ptD : D → Bool
  | .non => true
  | .bl _ => true
  | .int _ => true
  | .str _ => true
  | .tup ds => ptDs ds
  | _ => false
def ptDs : List D → Bool
  | [] => true
  | d :: r => ptD d && ptDs r
end
section
variable {c : Ct} {da : Option Addr} {O0 O : List Addr} {H : Hp}
mutual
theorem Rep.pt (n : ∀ b xs, H b = some (.tup xs) → b ∉ O) : ∀ {v : V} {d : D}, Rep c da (vis O0 H) v d → ptD d = true → Rep c da (vis O H) v d
  | _, _, .non, _ => .non
  | _, _, .bl b, _ => .bl b
  | _, _, .int i, _ => .int i
  | _, _, .str x, _ => .str x
  | _, _, .tup e r, l => .tup (by rw [vis_out (n _ _ (vis_some e).2)]; exact (vis_some e).2) (RepAll.pt n r (by simpa [ptD] using l))
  | _, _, .ty _, l => by simp [ptD] at l
  | _, _, .draw _, l => by simp [ptD] at l
  | _, _, .ktup _ _, l => by simp [ptD] at l
  | _, _, .lst _ _, l => by simp [ptD] at l
  | _, _, .scr _, l => by simp [ptD] at l
  | _, _, .dK _ _, l => by simp [ptD] at l
  | _, _, .dT _ _, l => by simp [ptD] at l
  | _, _, .fdT _ _, l => by simp [ptD] at l
  | _, _, .exc _ _ _ _, l => by simp [ptD] at l
  | _, _, .exo _ _, l => by simp [ptD] at l
  | _, _, .ins _ _ _, l => by simp [ptD] at l
  | _, _, .lam _ _ _ _ _, l => by simp [ptD] at l
theorem RepAll.pt (n : ∀ b xs, H b = some (.tup xs) → b ∉ O) : ∀ {v : List V} {d : List D}, RepAll c da (vis O0 H) v d → ptDs d = true → RepAll c da (vis O H) v d
  | _, _, .nil, _ => .nil
  | _, _, .cons a r, l => by
    simp only [ptDs, Bool.and_eq_true] at l
    exact .cons (Rep.pt n a l.1) (RepAll.pt n r l.2)
end
end
section
variable {c : Ct} {F : Fm} {O : List Addr} {ρ : Env} {w : W} {σ : L2.St} {H : Hp}
end
def callB (den : List D → W → Option (RV × W)) (fa : M (List RV)) : M RV := bindM fa fun rs => fun ρ w => match peeks ρ rs with
  | some ds => (match den ds w with
    | some (.sh d, w') => if ptD d = true then some (.sh d, ρ, w') else none
    | _ => none)
  | none => none
theorem callB_some {den : List D → W → Option (RV × W)} {rs : List RV} {ρ : Env} {w : W} {z : RV × Env × W} (h : (match peeks ρ rs with
  | some ds => (match den ds w with
    | some (.sh d, w') => if ptD d = true then some (RV.sh d, ρ, w') else none
    | _ => none)
  | none => none) = some z) : ∃ ds d w', peeks ρ rs = some ds ∧ den ds w = some (.sh d, w') ∧ ptD d = true ∧ z = (.sh d, ρ, w') := by
  split at h
  · rename_i ds e
    split at h
    · rename_i d w' e2
      split at h
      · rename_i hp
        exact ⟨ds, d, w', e, e2, hp, (Option.some.inj h).symm⟩
      · cases h
    · cases h
  · cases h
section
variable {X : Cx} {e : Expr} {es : List Expr} {pos p : Pos} {x : Str} {k j n : Nat} {den : List D → W → Option (RV × W)} {fa : M (List RV)}
end
end FD

end sec_FD36
section sec_FD37
set_option maxRecDepth 100000
set_option maxHeartbeats 5000000
/-! FD37: sorted(list) of plain data of one shape (lists or tuples of numbers and texts). -/
namespace FD
open PySem PySem.Spec PyProof.Rows L2 PySem.W
variable [Tabl]
section
variable {X : Cx}
end
end FD

end sec_FD37
section sec_FD38
set_option maxRecDepth 100000
set_option maxHeartbeats 5000000
/-! FD38: a, b = list. -/
namespace FD
open PySem L2
variable [Tabl]
section
variable {X : Cx} {es : List Expr} {pos : Pos} {js : List Nat}
end
end FD

end sec_FD38
section sec_FD39
set_option maxRecDepth 100000
set_option maxHeartbeats 5000000
/-! FD39: defs that call themselves. -/
namespace FD
open PySem L2
variable [Tabl]
section
variable {P : Program} {w : World} {K : PySem.W.Frag} {mg : Str → Option Value} {base : Heap}
end
end FD

end sec_FD39
section sec_FD40
set_option maxRecDepth 100000
set_option maxHeartbeats 5000000
/-! FD40: tuples turned about. -/
namespace FD
open PySem PySem.Spec PyProof.Rows L2
section
variable {prog : Program} {w : World} {A : Around} {E : Value → Shared → Prop} {s : Shared}
end
section
variable {X : Cx} {e : Expr} {te : TE} {k : Nat} {p1 p2 p3 pos : Pos}
variable [Tabl] {fe : M RV}
end
end FD

end sec_FD40
section sec_FD41
set_option maxRecDepth 100000
set_option maxHeartbeats 5000000
/-! FD41: an own list that is only lent while an expression is reckoned. -/
namespace FD
open PySem L2
variable [Tabl]
end FD

end sec_FD41
section sec_FD42
set_option maxRecDepth 100000
set_option maxHeartbeats 5000000
/-! FD42: k in d, for dicts whose keys are tuples of numbers and texts. -/
namespace FD
open PySem L2
variable [Tabl]
section
variable {X : Cx} {a b : Expr} {pos : Pos} {fa fb : M RV} {k : Nat}
end
end FD

end sec_FD42
section sec_FD49
set_option maxRecDepth 100000
set_option maxHeartbeats 1000000
/-! FD49: e == [], whatever e holds. -/
namespace FD
open PySem L2
variable [Tabl]
def eq0D : D → D → Option RV
  | .lst (_ :: _), .lst [] => some (.sh (.bl false))
  | d1, d2 => eqD d1 d2
theorem eq0_cons {d : D} {ds : List D} : eq0D (.lst (d :: ds)) (.lst []) = some (.sh (.bl false)) := rfl
theorem eq0_nil : eq0D (.lst []) (.lst []) = some (.sh (.bl true)) := rfl
section
variable {X : Cx} {k : Nat}
theorem opD_eq0 (hr : Room k X.A) : OpR X (compareOp .Eq) (rP2 (ct X) eq0D) := by
  intro pins s σ H x y v u Q I rx ry h
  obtain ⟨da, O, d1, d2, r, hO, h1, h2, eg, q⟩ := h
  unfold eq0D at eg
  split at eg
  · cases eg
    obtain ⟨a, xs, rfl, ha, ra⟩ := h1.lst
    obtain ⟨b, ys, rfl, hb, rb⟩ := h2.lst
    cases rx
    cases ry
    cases rb
    cases ra with
    | cons r1 r2 =>
      obtain ⟨zs, vz, ⟨o1, m1, at1, c1, w1, e1⟩, _⟩ := I.list (show SqL X.K H a _ from .inl (.inl ha))
      obtain ⟨ts, vt, ⟨o2, m2, at2, c2, w2, e2⟩, _⟩ := I.list (show SqL X.K H b _ from .inl (.inl hb))
      cases vt
      cases vz with
      | cons z1 z2 =>
        have hu := hr.units
        exact SeqAt.RcAt.lists_lengths ⟨o1, at1, c1, m1, e1⟩ ⟨o2, at2, c2, m2, e2⟩ (by simp) (by omega) X.prog X.w X.xe _ ⟨.bl _, H, I, rfl, q _ _ (Ex.refl _) (.bl _)⟩
  · exact opD_eq hr pins s σ H x y v u Q I rx ry ⟨da, O, _, _, r, hO, h1, h2, eg, q⟩
end
/-! max of two numbers -/
def max2D : List D → Option RV
  | [.int i, .int j] => some (.sh (.int (if j > i then j else i)))
  | _ => none
section
variable {X : Cx}
theorem bD_max2 (hc : X.calm = true) : CallR X (.builtin "max") (rPure (ct X) max2D) := by
  intro pins s σ H xs us Q I r h
  obtain ⟨da, O, ds, rv, hO, p, eg, q⟩ := h
  unfold max2D at eg
  split at eg
  · cases eg
    obtain ⟨v, u, rfl, p1, p2⟩ := p.two
    obtain rfl := p1.int
    obtain rfl := p2.int
    exact call_max2 hc pins s σ H _ us Q I r ⟨_, _, rfl, q _ _ (Ex.refl _) (.int _)⟩
  · cases eg
end
end FD

end sec_FD49
section sec_SM
set_option maxRecDepth 100000
set_option maxHeartbeats 5000000
/-! SM: the place of sys.modules is never one of ours; repr of lists and tuples that hold small dicts. -/
namespace FD
open PySem L2
variable [Tabl]
abbrev SmB (base : Heap) : Prop := LG.SmAt base
mutual
inductive Dq (K : PySem.W.Frag) (H : Hp) : V → PyData → Prop
  | plain {v : V} {d : PyData} : Dp K H v d → Dq K H v d
  | dic0 {a : Addr} : H a = some (.dK []) → Dq K H (.ref a) (.dict [])
  | dic1 {a : Addr} {x : Str} {i : Int} : H a = some (.dK [(.inr x, .int i)]) → Dq K H (.ref a) (.dict [(.str x, .int i)])
  | dit2 {a : Addr} {m n i : Int} : H a = some (.dT [([.inl m, .inl n], .int i)]) → Dq K H (.ref a) (.dict [(.tuple [.int m, .int n], .int i)])
  | lst {a : Addr} {xs : List V} {ds : List PyData} : SqL K H a xs → DqAll K H xs ds → Dq K H (.ref a) (.list ds)
  | tup {a : Addr} {xs : List V} {ds : List PyData} : SqT K H a xs → DqAll K H xs ds → Dq K H (.ref a) (.tuple ds)
inductive DqAll (K : PySem.W.Frag) (H : Hp) : List V → List PyData → Prop
  | nil : DqAll K H [] []
  | cons {v : V} {vs : List V} {d : PyData} {ds : List PyData} : Dq K H v d → DqAll K H vs ds → DqAll K H (v :: vs) (d :: ds)
end
section
variable {X : Cx} {pins : List (Addr × PySem.Obj)} {σ : L2.St} {H : Hp} {s : Shared}
/-- no list of ours stands there -/
theorem sm_list_ne (S : SmB X.base) (I : Inv X pins σ H s) {a : Addr} {o : PySem.Obj} {vs : Array Value} {n : Nat} (e : s.heap.get? a = some o) (d : o.data = .seq vs n) : sysModules ≠ a := fun z => by
  obtain ⟨u, es, ep, h1, h2⟩ := S
  have h3 := I.bk _ _ h1
  rw [z, e] at h3
  cases h3
  rw [d] at h2
  cases h2
theorem dit_reads {a : Addr} {m n v : Int} (I : Inv X pins σ H s) (e : H a = some (.dT [([.inl m, .inl n], .int v)])) : ∃ as, Reads s.heap (.ref a) (.dict [(.tuple [.int m, .int n], .int v)]) as ∧ sysModules ∉ as := by
  obtain ⟨_, low, xs, kt, o, es, ep, ho, hx, hd, he, _, _⟩ := dt_of I.hok e
  have apart : sysModules ≠ a := fun z => by
    rw [← z] at low
    simp at low
  obtain ⟨b, u, rfl, eb, ru⟩ : ∃ (b : Addr) (u : Value), xs = [([.inl m, .inl n], b, u)] ∧ H b = some (.tup [.int m, .int n]) ∧ RelV (.int v) u := by
    cases kt with
    | cons q1 q2 =>
      cases q2
      rename_i q _ _
      obtain ⟨k, b, u⟩ := q
      obtain ⟨rfl, e2, r⟩ := q1
      exact ⟨b, u, rfl, e2, r⟩
  obtain ⟨t, rfl⟩ := ru
  obtain ⟨zs, vz, ⟨ob, at1, c1, w1, d1⟩, _⟩ := I.tuple (show SqT X.K H b [.int m, .int n] from .inl (.inl eb))
  have rk : ReadsAll s.heap zs [.int m, .int n] [] := by
    cases vz with
    | cons r1 r2 =>
      cases r2 with
      | cons r3 r4 =>
        cases r4
        obtain ⟨t1, rfl⟩ := r1
        obtain ⟨t2, rfl⟩ := r3
        exact .cons (as := []) (bs := []) (.int m t1) (.cons (as := []) (bs := []) (.int n t2) .nil)
  have rt : Reads s.heap (.ref b) (.tuple [.int m, .int n]) [] := .tuple at1 c1 d1 rk
  refine ⟨_, .dict (kvs := [(.tuple [.int m, .int n], .int v)]) (as := [] ++ []) (bs := [] ++ []) ho hx.1 hd ?_ ?_, by simpa using apart⟩
  · rw [he]
    exact .cons rt .nil
  · rw [he]
    exact .cons (.int v t) .nil
/-- data without dicts keeps clear of it, too -/
theorem plain_reads (S : SmB X.base) (I : Inv X pins σ H s) : ∀ {u : Value} {d : PyData} {as : List Addr}, Reads s.heap u d as → d.hasDict = false → sysModules ∉ as := by
  intro u d as r
  exact Reads.rec (motive_1 := fun u d as _ => d.hasDict = false → sysModules ∉ as) (motive_2 := fun us ds as _ => PyData.hasDictAll ds = false → sysModules ∉ as)
    (fun _ => List.not_mem_nil) (fun _ _ => List.not_mem_nil) (fun _ _ _ => List.not_mem_nil) (fun _ _ _ => List.not_mem_nil)
    (fun e _ d _ ih h m => by
      rcases List.mem_cons.mp m with z | z
      · exact sm_list_ne S I e d z
      · exact ih (by simpa [PyData.hasDict] using h) z)
    (fun e _ d _ ih h => ih (by simpa [PyData.hasDict] using h))
    (fun e _ d _ _ _ _ h => by simp [PyData.hasDict] at h)
    (fun _ => List.not_mem_nil)
    (fun _ _ i1 i2 h m => by
      rw [PyData.hasDictAll, Bool.or_eq_false_iff] at h
      rcases List.mem_append.mp m with z | z
      · exact i1 h.1 z
      · exact i2 h.2 z) r
theorem hasDict_dp {K : PySem.W.Frag} : ∀ {v : V} {d : PyData}, Dp K H v d → d.hasDict = false := by
  intro v d h
  exact Dp.rec (motive_1 := fun _ d _ => d.hasDict = false) (motive_2 := fun _ ds _ => PyData.hasDictAll ds = false)
    (by simp [PyData.hasDict]) (fun _ => by simp [PyData.hasDict]) (fun _ => by simp [PyData.hasDict]) (fun _ => by simp [PyData.hasDict])
    (fun _ _ ih => by simpa [PyData.hasDict] using ih) (fun _ _ ih => by simpa [PyData.hasDict] using ih) (by simp [PyData.hasDictAll]) (fun _ _ i1 i2 => by simp [PyData.hasDictAll, i1, i2]) h
mutual
theorem Dq.reads (S : SmB X.base) (I : Inv X pins σ H s) : ∀ {v : V} {d : PyData}, Dq X.K H v d → ∀ {u : Value}, RelV v u → ∃ as, Reads s.heap u d as ∧ sysModules ∉ as
  | _, _, .plain h, _, r => by
    obtain ⟨as, q⟩ := Dp.reads I _ _ _ h r
    exact ⟨as, q, plain_reads S I q (hasDict_dp h)⟩
  | _, _, .dic0 h, _, r => by
    cases r
    exact (dic_reads I h).1 rfl
  | _, _, .dic1 h, _, r => by
    cases r
    exact (dic_reads I h).2 _ _ rfl
  | _, _, .dit2 h, _, r => by
    cases r
    exact dit_reads I h
  | _, _, .lst hs ha, _, r => by
    cases r
    obtain ⟨zs, vz, ⟨ob, m, at1, c1, _, d1⟩, _⟩ := I.list hs
    obtain ⟨as, hr, ns⟩ := DqAll.reads S I ha vz
    refine ⟨_, Reads.list at1 c1 d1 hr, fun m => ?_⟩
    rcases List.mem_cons.mp m with z | z
    · exact sm_list_ne S I at1 d1 z
    · exact ns z
  | _, _, .tup hs ha, _, r => by
    cases r
    obtain ⟨zs, vz, ⟨ob, at1, c1, m, d1⟩, _⟩ := I.tuple hs
    obtain ⟨as, hr, ns⟩ := DqAll.reads S I ha vz
    exact ⟨_, Reads.tuple at1 c1 d1 hr, ns⟩
theorem DqAll.reads (S : SmB X.base) (I : Inv X pins σ H s) : ∀ {vs : List V} {ds : List PyData}, DqAll X.K H vs ds → ∀ {us : List Value}, Vals vs us → ∃ as, ReadsAll s.heap us ds as ∧ sysModules ∉ as
  | _, _, .nil, _, r => by
    cases r
    exact ⟨_, ReadsAll.nil, List.not_mem_nil⟩
  | _, _, .cons h1 h2, _, r => by
    cases r with
    | cons r1 r2 =>
      obtain ⟨as, q1, n1⟩ := Dq.reads S I h1 r1
      obtain ⟨bs, q2, n2⟩ := DqAll.reads S I h2 r2
      exact ⟨_, ReadsAll.cons q1 q2, fun m => (List.mem_append.mp m).elim n1 n2⟩
end
end
/-! ### data with small dicts -/
def dicPy : List (D × D) → Option PyData
  | [] => some (.dict [])
  | [(.str x, .int i)] => some (.dict [(.str x, .int i)])
  | _ => none
def ditPy : List (D × D) → Option PyData
  | [(.tup [.int m, .int n], .int i)] => some (.dict [(.tuple [.int m, .int n], .int i)])
  | _ => none
mutual
def toPyK : D → Option PyData
  | .non => some .none
  | .bl b => some (.bool b)
  | .int i => some (.int i)
  | .str x => some (.str x)
  | .tup ds => (toPysK ds).map .tuple
  | .ktup ds => (toPysK ds).map .tuple
  | .lst ds => (toPysK ds).map .list
  | .dic ps => dicPy ps
  | .dit ps => ditPy ps
  | _ => none
def toPysK : List D → Option (List PyData)
  | [] => some []
  | d :: r => match toPyK d with
    | some p => (toPysK r).map (p :: ·)
    | none => none
end
theorem dicPy_dq {c : Ct} {da : Option Addr} {G H : Hp} {a : Addr} {kvs : List (Key × V)} {ps : List (D × D)} {p : PyData} (e : dicPy ps = some p) (h : H a = some (.dK kvs)) (r : RepKV c da G kvs ps) : Dq c.K H (.ref a) p := by
  unfold dicPy at e
  split at e
  · cases e
    cases r
    exact .dic0 h
  · rename_i x i
    cases e
    generalize hd : (D.str x) = dx at r
    cases r with
    | cons r1 r2 =>
      cases r2
      cases r1
      rename_i k
      match k, hd with
      | .inr y, hd =>
        cases hd
        exact .dic1 h
  · cases e
theorem ditPy_dq {c : Ct} {da : Option Addr} {G H : Hp} {a : Addr} {kvs : List (List Key × V)} {ps : List (D × D)} {p : PyData} (e : ditPy ps = some p) (h : H a = some (.dT kvs)) (r : RepKT c da G kvs ps) : Dq c.K H (.ref a) p := by
  unfold ditPy at e
  split at e
  · rename_i m n i
    cases e
    generalize hd : (D.tup [.int m, .int n]) = dx at r
    cases r with
    | cons r1 r2 =>
      cases r2
      cases r1
      rename_i k
      match k, hd with
      | [.inl m2, .inl n2], hd =>
        simp [kD] at hd
        obtain ⟨rfl, rfl⟩ := hd
        exact .dit2 h
      | [], hd => simp at hd
      | [_], hd => simp at hd
      | [.inr _, _], hd => simp [kD] at hd
      | [.inl _, .inr _], hd => simp [kD] at hd
      | _ :: _ :: _ :: _, hd => simp at hd
  · cases e
section
variable {c : Ct} {da : Option Addr} {G H : Hp}
mutual
theorem Rep.dq (x : Ex G H) : ∀ {v : V} {d : D} {p : PyData}, Rep c da G v d → toPyK d = some p → Dq c.K H v p
  | _, _, _, .non, e => by cases e; exact .plain .non
  | _, _, _, .bl b, e => by cases e; exact .plain (.bl b)
  | _, _, _, .int i, e => by cases e; exact .plain (.int i)
  | _, _, _, .str y, e => by cases e; exact .plain (.str y)
  | _, _, _, .ty n, e => by cases e
  | _, _, _, .draw h, e => by cases e
  | _, .tup ds, _, .tup s r, e => by
    simp only [toPyK] at e
    obtain ⟨ps, q, rfl⟩ := Option.map_eq_some_iff.mp e
    exact .tup (.inl (.inl (x _ _ s))) (RepAll.dq x r q)
  | _, .ktup ds, _, .ktup s r, e => by
    simp only [toPyK] at e
    obtain ⟨ps, q, rfl⟩ := Option.map_eq_some_iff.mp e
    exact .tup (x.st s) (RepAll.dq x r q)
  | _, .lst ds, _, .lst s r, e => by
    simp only [toPyK] at e
    obtain ⟨ps, q, rfl⟩ := Option.map_eq_some_iff.mp e
    exact .lst (.inl (.inl (x _ _ s))) (RepAll.dq x r q)
  | _, _, _, .scr s, e => by cases e
  | _, .dic ps, _, .dK s r, e => by
    simp only [toPyK] at e
    exact dicPy_dq e (x _ _ s) r
  | _, .dit ps, _, .dT s r, e => by
    simp only [toPyK] at e
    exact ditPy_dq e (x _ _ s) r
  | _, _, _, .fdT s r, e => by cases e
  | _, _, _, .exc s s2 m r, e => by cases e
  | _, _, _, .exo s m, e => by cases e
  | _, _, _, .ins s m r, e => by cases e
  | _, .lam i ds, _, .lam t s s2 k r, e => by
    simp only [toPyK] at e
    cases e
theorem RepAll.dq (x : Ex G H) : ∀ {vs : List V} {ds : List D} {ps : List PyData}, RepAll c da G vs ds → toPysK ds = some ps → DqAll c.K H vs ps
  | _, _, _, .nil, e => by
    simp only [toPysK] at e
    cases e
    exact .nil
  | _, d :: ds, _, .cons h r, e => by
    simp only [toPysK] at e
    cases q : toPyK d with
    | none =>
      rw [q] at e
      cases e
    | some p =>
      rw [q] at e
      obtain ⟨ps, q2, rfl⟩ := Option.map_eq_some_iff.mp e
      exact .cons (Rep.dq x h q) (RepAll.dq x r q2)
end
theorem RepP.dq {O : List Addr} {v : V} {d : D} {p : PyData} (h : RepP c da O H v d) (e : toPyK d = some p) : Dq c.K H v p := by
  rcases h with h | ⟨a, o, rfl, ha, ob⟩
  · exact h.dq vis_ex e
  · rcases ob with ⟨xs, ds, rfl, rfl, r⟩ | ⟨kvs, ps, rfl, rfl, r⟩ | ⟨kvs, ps, rfl, rfl, r⟩ | ⟨_, _, _, _, _, _, rfl, _⟩
    · simp only [toPyK] at e
      obtain ⟨ps, q, rfl⟩ := Option.map_eq_some_iff.mp e
      exact .lst (.inl (.inl ha)) (r.dq vis_ex q)
    · simp only [toPyK] at e
      exact dicPy_dq e ha r
    · simp only [toPyK] at e
      exact ditPy_dq e ha r
    · cases e
end
/-! ### repr -/
def shwDK (d : D) : Option RV := match toPyK d with
  | some p => if p.showable = true ∧ p.depth ≤ 60 ∧ p.shown.length ≤ 1000000 then some (.sh (.str p.shown)) else none
  | none => none
def reprQ : List D → Option RV
  | [.lst xs] => shwDK (.lst xs)
  | [.tup xs] => shwDK (.tup xs)
  | [.dic ps] => shwDK (.dic ps)
  | [.dit ps] => shwDK (.dit ps)
  | _ => none
section
variable {X : Cx} {k : Nat}
theorem cr_reprDq (hS : SmB X.base) (hr : Room k X.A) (hG : X.A.guards = some []) : CallR X (.builtin "repr") (fun xs H Q => ∃ a py, xs = [.ref a] ∧ Dq X.K H (.ref a) py ∧ (py.showable = true ∧ py.depth ≤ 60 ∧ py.shown.length ≤ 1000000) ∧ Q (.str py.shown) H) := by
  intro pins s σ H xs us Q I r h
  obtain ⟨a, py, rfl, dp, hc, q⟩ := h
  obtain ⟨as, rd, ns⟩ := Dq.reads hS I dp (show RelV (.ref a) (.ref a) from rfl)
  rw [Vals.ref1 r]
  have hun := hr.units
  exact repr_of_reads' rd hc.1 (fun _ => ns) hG (by omega) (fun _ _ e => e) (fun h' u tk hk => ⟨.str _, H, I.kept (t' := tk) hk, ⟨u, rfl⟩, q⟩) (small_fits hc.2.2)
theorem bD_reprQ (hS : SmB X.base) (hr : Room k X.A) (hG : X.A.guards = some []) : CallR X (.builtin "repr") (rPure (ct X) reprQ) := by
  intro pins s σ H xs us Q I r h
  obtain ⟨da, O, ds, rv, hO, p, eg, q⟩ := h
  have core : ∀ d, shwDK d = some rv → (∀ v, RepP (ct X) da O H v d → ∃ a, v = .ref a) → ds = [d] → wpAny (model X.prog X.w) X.A (call (.builtin "repr") us) (EP X pins σ Q) X.xe s := fun d e0 hv ed => by
    subst ed
    obtain ⟨v, rfl, P⟩ := p.one
    obtain ⟨a, rfl⟩ := hv v P
    unfold shwDK at e0
    split at e0
    · rename_i py e
      split at e0
      · rename_i hc
        cases e0
        exact cr_reprDq hS hr hG pins s σ H _ us Q I r ⟨a, py, rfl, P.dq e, hc, q _ _ (Ex.refl _) (.str _)⟩
      · cases e0
    · cases e0
  unfold reprQ at eg
  split at eg
  · exact core _ eg (fun v P => let ⟨a, _, e, _⟩ := P.lst; ⟨a, e⟩) rfl
  · exact core _ eg (fun v P => let ⟨a, _, e, _⟩ := P.tup; ⟨a, e⟩) rfl
  · exact core _ eg (fun v P => let ⟨a, _, e, _⟩ := P.dic; ⟨a, e⟩) rfl
  · exact core _ eg (fun v P => let ⟨a, _, e, _⟩ := P.dit; ⟨a, e⟩) rfl
  · cases eg
theorem bD_reprW (hS : SmB X.base) (hr : Room k X.A) (hG : X.A.guards = some []) : CallR X (.builtin "repr") (rPure (ct X) (orN reprS reprQ)) := bD_or bD_reprS (bD_reprQ hS hr hG)
variable {es : List Expr} {p p2 pos : Pos} {fa : M (List RV)}
end
end FD

end sec_SM
section sec_FD47
set_option maxRecDepth 100000
set_option maxHeartbeats 400000
/-! FD47: str(number). -/
namespace FD
open PySem L2
variable [Tabl]
theorem bo_str : bootBuiltins "str" = some (.type "str") := by decide +kernel
def strID : List D → Option RV
  | [.int i] => if i.natAbs.log2 < 1920 then some (.sh (.str (toString i))) else none
  | _ => none
theorem bD_strI {X : Cx} : CallR X (.type "str") (rPure (ct X) strID) := by
  intro pins s σ H xs us Q I rs h
  obtain ⟨da, O, ds, rv, hO, p, eg, q⟩ := h
  unfold strID at eg
  split at eg
  · split at eg
    · rename_i small
      cases eg
      obtain ⟨v, rfl, P⟩ := p.one
      rw [P.int] at rs
      cases rs with
      | cons r1 r2 =>
        cases r2
        obtain ⟨t, rfl⟩ := r1
        exact PySem.P.str_of_int small ⟨.str _, H, I.tok _, ⟨_, rfl⟩, q _ _ (Ex.refl _) (.str _)⟩
    · cases eg
  · cases eg
end FD

end sec_FD47
section sec_FD48
set_option maxRecDepth 100000
set_option maxHeartbeats 400000
/-! FD48: {key: value} with one key that is a tuple. -/
namespace FD
open PySem L2
variable [Tabl]
def tDispT (tk tv : TE) : TE := fun σ H Q => ∀ p, H p = none → tPairs [(tk, tv)] σ (upd H p (.dT [])) fun ps H2 =>
  ∃ (a : Addr) (k : List Key) (y : V), ps = [(.ref a, y)] ∧ H2 a = some (.tup (k.map kV)) ∧ H2 p = some (.dT []) ∧ Q (.ref p) (upd H2 p (.dT [(k, y)]))
theorem pe_dispT {X : Cx} {pos : Pos} {ke ve : Expr} {tk tv : TE} {j : Nat} (hr : Room j X.A) (hk : PE X ke tk) (hv : PE X ve tv) : PE X (.Dict [some ke] [ve] pos) (tDispT tk tv) := ⟨fun pins s σ H Q I q => by
  have new := I.hok.fresh (Nat.le_refl s.heap.objs.size)
  have I1 := I.laid (a := s.heap.objs.size) (o := .dT []) (h' := s.heap.push { cls := .type "dict", data := .dict #[] }) (t' := s.toks) (fun _ _ z => Heap.get?_push_of_some _ z) (Nat.le_refl _) (dt_empty s.heap I.big)
  have hun := hr.units
  have sat := q _ new
  have run := (pps_cons (pos := pos) hk hv pps_nil).run pins _ σ _ _ I1 sat
  rw [arm_eval_Dict, zip_pairTrees [some ke] [ve] X.env pos rfl rfl, dictDisplay_pairs _ (by simp [pairTrees]) (by simp [pairTrees])]
  refine wpAny_bind (wpAny_standAt (wpAny_bind (wpAny_subDictH (knd := tupleKind (mixKind X.prog X.w)) (show X.A.units < cLine by omega) (by simp [pairTrees]) (thn run fun ws s2 ⟨ps, H2, I2, rel, a, k, y, ep, ea, ed, q2⟩ => ?_))))
  subst ep
  have form : ∃ u : Value, ws = [(.ref a, u)] ∧ RelV y u := by
    cases rel with
    | cons r1 r0 =>
      cases r0
      rename_i b _
      obtain ⟨b1, b2⟩ := b
      obtain ⟨rk, ry⟩ := r1
      cases (show b1 = .ref a from rk)
      exact ⟨b2, rfl, ry⟩
  clear run
  obtain ⟨u, rfl, ry⟩ := form
  · skip
    obtain ⟨_, low, xs, kt, dd⟩ := dt_of I2.hok ed
    cases kt
    refine ⟨[(k, a, u)], ⟨rfl, rfl, key_of I2.hok ea, trivial⟩, dd, fun h' tok dd' same => wpAny_pure ⟨.ref s.heap.objs.size, upd H2 s.heap.objs.size (.dT [(k, y)]), ?_, rfl, q2⟩⟩
    have apart : a ≠ s.heap.objs.size := fun z => by
      rw [z, ed] at ea
      cases ea
    obtain ⟨o, es, ep, h1, h2, h3, h4, h5, h6⟩ := dd'
    refine d_write I2 (by rw [ed]; exact True.intro) same ⟨o, h1⟩ ⟨by rw [sizeLine_eq]; simp, low, [(k, a, u)], .cons ⟨rfl, ?_, ry⟩ .nil, o, es, ep, h1, h2, h3, h4, h6⟩
    rw [upd_ne apart]
    exact ea⟩
/-- {(i, j): n}, all written -/
theorem fe_ditI {X : Cx} {m n v : Int} {j j1 j2 j3 i1 : Nat} {p1 p2 p3 p4 pos : Pos} (hr : Room j X.A) (hs : Plain1 X (.Constant (.int m) j1 p1) [.Constant (.int n) j2 p2] := by rfl) (hs2 : Plain1 X (.Constant (.int n) j2 p2) [] := by rfl) :
    FE X (.Dict [some (.Tuple [.Constant (.int m) j1 p1, .Constant (.int n) j2 p2] i1 p4)] [.Constant (.int v) j3 p3] pos) (pureM (.fr (.dit [(.tup [.int m, .int n], .int v)]))) := fun F =>
  PE.wk (pe_dispT hr (pe_tup (pks_cons pe_int (pks_cons pe_int pks_nil hs2) hs)) pe_int) fun σ H Q h => by
  obtain ⟨O, ρ, w, r, ρ', w', S, e, k⟩ := h
  cases e
  intro p np
  refine ⟨small_fits (by simp), fun a na => ?_⟩
  have ap : a ≠ p := fun z => by
    rw [z, upd_same] at na
    cases na
  have na0 : H a = none := by
    rw [upd_ne ap] at na
    exact na
  refine ⟨a, [.inl m, .inl n], .int v, rfl, upd_same, by rw [upd_ne (Ne.symm ap), upd_same], ?_⟩
  have x2 : Ex H (upd (upd (upd H p (.dT [])) a (.tup [.int m, .int n])) p (.dT [([.inl m, .inl n], .int v)])) := fun b o hb => by
    rw [upd_ne (ne_of_none hb np), upd_ne (ne_of_none hb na0), upd_ne (ne_of_none hb np)]
    exact hb
  obtain ⟨S3, n3, k3⟩ := S.hide np x2 upd_same
  exact k _ O _ (S.grow x2) (vis_mono x2) ⟨p, _, rfl, n3, S3, upd_same, .inr (.inr (.inl ⟨[([.inl m, .inl n], .int v)], [(.tup [.int m, .int n], .int v)], rfl, rfl, .cons (k := [.inl m, .inl n]) (.int v) .nil⟩)), k3⟩
end FD

end sec_FD48
section sec_XD1
set_option maxRecDepth 100000
set_option maxHeartbeats 5000000
/-! XD1: runs that end by raising: statements and expressions. -/
namespace FD
open PySem L2
variable [Tabl]
/-- an exception as data -/
structure Xn where
  cn : Str
  gs : List (Str × D)
/-- how an exception stands in the heap -/
def XO (c : Ct) (da : Option Addr) (O : List Addr) (H : Hp) (x : Xn) (cls : Value) (d : Option Addr) : Prop :=
  ∃ (C dx : Addr) (fs : List (Str × V)), cls = .ref C ∧ d = some dx ∧ c.mg x.cn = some (.ref C) ∧ vis O H dx = some (.xd fs) ∧ RepF c da (vis O H) fs x.gs
theorem XO.mono {c : Ct} {da : Option Addr} {O O' : List Addr} {H H' : Hp} {x : Xn} {cls : Value} {d : Option Addr} (e : Ex (vis O H) (vis O' H')) (h : XO c da O H x cls d) : XO c da O' H' x cls d := by
  obtain ⟨C, dx, fs, h1, h2, h3, h4, h5⟩ := h
  exact ⟨C, dx, fs, h1, h2, h3, e _ _ h4, h5.mono e⟩
/-- a run that raises: for an expression the slots stay -/
def tXE (c : Ct) (F : Fm) (g : M Xn) (W : WX) : TE := fun σ H _ => ∃ O ρ w x ρ' w', SR c F O ρ w σ H ∧ g ρ w = some (x, ρ', w') ∧
  ∀ O' H' cls d, SR c F O' ρ' w' σ H' → Ex (vis O H) (vis O' H') → XO c F.dr.da O' H' x cls d → W cls d σ H'
def tXS (c : Ct) (F : Fm) (g : M Xn) (W : WX) : TS := fun _ σ H => ∃ O ρ w x ρ' w', SR c F O ρ w σ H ∧ g ρ w = some (x, ρ', w') ∧
  ∀ σ' O' H' cls d, SR c F O' ρ' w' σ' H' → Ex (vis O H) (vis O' H') → XO c F.dr.da O' H' x cls d → W cls d σ' H'
/-- a context that takes the wish W -/
structure XC (X : Cx) (W : WX) : Prop where
  tk : Takes X W
  po : PassesOwn (model X.prog X.w) X.A X.env X.xe
def FXE (X : Cx) (e : Expr) (g : M Xn) : Prop := ∀ W, XC X W → ∀ F, PE X e (tXE (ct X) F g W)
def FX1 (X : Cx) (st : Stmt) (g : M Xn) : Prop := ∀ W, XC X W → ∀ F, PS X st (tXS (ct X) F g W)
def FX (X : Cx) (sts : List Stmt) (g : M Xn) : Prop := ∀ W, XC X W → ∀ F, PSs X sts (tXS (ct X) F g W)
theorem tXS.toE {c : Ct} {F : Fm} {g : M Xn} {W : WX} {D : Ends} {σ : L2.St} {H : Hp} {Q : VK} (h : tXS c F g W D σ H) : tXE c F g W σ H Q := by
  obtain ⟨O, ρ, w, x, ρ', w', S, e, k⟩ := h
  exact ⟨O, ρ, w, x, ρ', w', S, e, fun O' H' cls d => k σ O' H' cls d⟩
section
variable {X : Cx} {e : Expr} {st : Stmt} {rest sts : List Stmt} {g g' : M Xn} {f : M Fl} {pos pos' : Pos} {i : Nat} {x : Str}
theorem PS.lift {t : TS} (h : PS X.nox st t) : PS X st t := ⟨fun pins s σ H D I q => wpAny_mono (h.run pins s σ H D (I.wish _) q) (fun _ _ z => z.unwish) fun _ _ z => z.elim⟩
theorem pss_no : PSs X sts (fun _ _ _ => False) := ⟨fun _ _ _ _ _ _ h => h.elim⟩
theorem fx_alt (h1 : FX X sts g) (h2 : FX X sts g') : FX X sts (alt g g') := fun W xc F => ⟨fun pins s σ H D I q => by
  obtain ⟨O, ρ, w, x, ρ', w', S, e, k⟩ := q
  unfold alt at e
  split at e
  · rename_i z ez
    cases e
    exact (h1 W xc F).run pins s σ H D I ⟨O, ρ, w, x, ρ', w', S, ez, k⟩
  · exact (h2 W xc F).run pins s σ H D I ⟨O, ρ, w, x, ρ', w', S, e, k⟩⟩
theorem fx_here (h : FX1 X st g) : FX X (st :: rest) g := fun W xc F => PSs.wk (pss_cons (h W xc F) (pss_no (X := X))) fun D σ H q => q
/-- first a statement that runs through -/
def seqX (f : M Fl) (g : M Xn) : M Xn := bindM f fun fl => match fl with
  | .nx => g
  | _ => failM
theorem fx_later (h : FS X.nox st f) (hr : FX X rest g) : FX X (st :: rest) (seqX f g) := fun W xc F => PSs.wk (pss_cons (PS.lift (h F)) (hr W xc F)) fun D σ H q => by
  obtain ⟨O, ρ, w, x, ρ', w', S, e, k⟩ := q
  obtain ⟨fl, ρ1, w1, e1, e2⟩ := bindM_some e
  refine ⟨O, ρ, w, fl, ρ1, w1, S, e1, ?_⟩
  cases fl with
  | nx => exact fun σ1 O1 H1 S1 x1 => ⟨O1, ρ1, w1, x, ρ', w', S1, e2, fun σ' O' H' cls d S' x' => k σ' O' H' cls d S' (x1.trans x')⟩
  | ct => cases e2
  | bk => cases e2
  | ret r => cases e2
theorem fx1_expr (he : FXE X e g) (hs : swapsWith e none pos.line X.env = pure false := by rfl) : FX1 X (.Expr e pos) g := fun W xc F => PS.wk (ps_expr (he W xc F) hs) fun D σ H q => q.toE
theorem fx1_set (hN : X.N.Nodup) (hi : X.N[i]? = some x) (hx : Loc X.env.scope x) (he : FXE X e g) (hs : swapsWith e (some (.Name x pos')) pos.line X.env = pure false := by rfl) (hf : X.fn x = true ∨ X.env.scope.names.lookup x = some .local := by first | exact .inl rfl | exact .inr rfl | assumption) :
    FX1 X (.Assign [.Name x pos'] e pos) g := fun W xc F => PS.wk (ps_set hN hi hx (he W xc F) hs hf) fun D σ H q => q.toE
def ifX (ft : M Bool) (g g' : M Xn) : M Xn := bindM ft fun b => if b then g else g'
theorem fx1_if {t : Expr} {a b : List Stmt} {ft : M Bool} (ht : FT X t ft) (ha : FX X a g) (hb : FX X b g') : FX1 X (.If t a b pos) (ifX ft g g') := fun W xc F => PS.wk (ps_if (ht F) (ha W xc F) (hb W xc F)) fun D σ H q => by
  obtain ⟨O, ρ, w, x, ρ', w', S, e, k⟩ := q
  refine tT_then S e fun b O1 ρ1 w1 H1 S1 e1 h1 => ?_
  have k' : ∀ σ' O' H' cls d, SR (ct X) F O' ρ' w' σ' H' → Ex (vis O1 H1) (vis O' H') → XO (ct X) F.dr.da O' H' x cls d → W cls d σ' H' := fun σ' O' H' cls d S' x' => k σ' O' H' cls d S' (e1.trans x')
  cases b with
  | true => exact ⟨O1, ρ1, w1, x, ρ', w', S1, h1, k'⟩
  | false => exact ⟨O1, ρ1, w1, x, ρ', w', S1, h1, k'⟩
theorem fx_none : FX X sts failM := fun W xc F => ⟨fun pins s σ H D I q => by
  obtain ⟨O, ρ, w, x, ρ', w', S, e, k⟩ := q
  cases e⟩
end
end FD

end sec_XD1
section sec_XD2
set_option maxRecDepth 100000
set_option maxHeartbeats 5000000
/-! XD2: defs, calls and raise statements of runs that raise. -/
namespace FD
open PySem L2
variable [Tabl]
open PyProof.Rows (envOfC)
/-- a def's promise where it raises -/
def spX (c : Ct) (n : Nat) (den : List D → W → Option (Xn × W)) : Sp := fun vs H _ E => ∃ dr O0 w ds x w', (∀ a ∈ dr.as, a ∈ O0) ∧ (∀ a ∈ O0, ∃ o, H a = some o ∧ NT o) ∧ DrawAt dr w H ∧ RepAll c dr.da (vis O0 H) vs ds ∧ ds.length = n ∧ den ds w = some (x, w') ∧
  ∀ H' cls d, Kp dr H H' → DrawAt dr w' H' → XO c dr.da O0 H' x cls d → E cls d H'
def denX (n : Nat) (g : M Xn) : List D → W → Option (Xn × W) := fun ds w => (g (startE n ds) w).map fun z => (z.1, z.2.2)
theorem denX_some {n : Nat} {g : M Xn} {ds : List D} {w w' : W} {x : Xn} (h : denX n g ds w = some (x, w')) : ∃ ρ', g (startE n ds) w = some (x, ρ', w') := by
  unfold denX at h
  cases e : g (startE n ds) w with
  | none =>
    rw [e] at h
    cases h
  | some z =>
    obtain ⟨y, ρ', u⟩ := z
    rw [e] at h
    cases h
    exact ⟨ρ', rfl⟩
section
variable {P : Program} {w : World} {K : PySem.W.Frag} {mg : Str → Option Value} {base : Heap}
theorem xdef_ok {x qual : Str} {st : Stmt} {f : Addr} {fd : FuncData} {N ps : List Str} {k : Nat} {g : M Xn} (F : Fun K x qual st f fd) (S : FnScope N ps (defScope st))
    (hb : ∀ (cdv : Value) (A : Around) (outer : List PySem.Env) (s : Shared) (H : Hp) (E : XK), Room k (A.deeper (envOfC qual (defScope st) s.heap.objs.size f cdv)) → FX (cxOf (L2.CX P w) P w K mg base N qual (defScope st) f cdv A outer s H E) (defBody st) g) :
    FnOk P w K mg base (L2.CX P w) (k + 1) f fd ps (spX ⟨K, mg⟩ ps.length (denX N.length g)) := by
  obtain ⟨oc, od, kV, doc, pm, an, cdv, ctt, osl, rfl, lk, hcd⟩ := F.ex
  refine fn_of lk hcd S (fun vs H Q E h => ?_) fun A outer s H vs Q E hr h => ?_
  · obtain ⟨dr, O0, wd, ds, y, w', _, _, _, h4, h5, _⟩ := h
    rw [h4.length, h5]
  · obtain ⟨dr, O0, wd, ds, y, w', h1, h2, h3, h4, h5, h6, k6⟩ := h
    obtain ⟨ρ', e⟩ := denX_some h6
    refine ⟨_, hb cdv A outer s H E hr (fun cls d _ H' => E cls d H') ⟨takes_of rfl rfl rfl rfl, passes_of rfl⟩ ⟨dr, O0, H⟩, ?_⟩
    exact ⟨O0, _, wd, y, ρ', w', start_sr h1 h2 h3 h4, e, fun σ' O' H' cls d S' x' xo => k6 H' cls d S'.base S'.draw (xo.mono (vis_sub S'.sub))⟩
end
/-! ### calls -/
section
variable {X : Cx} {W : WX} {k j : Nat} {f C : Addr} {fd : FuncData} {ps : List Str} {sp : Sp} {dvs : List V} {ds : List Value}
/-- a call whose exceptions the wish takes -/
theorem run_call {pins : List (Addr × PySem.Obj)} {σ : L2.St} {H : Hp} {s : Shared} {Q : VK} {us : List Value} {vs : List V} (F : FnOk X.prog X.w X.K X.mg X.base (L2.CX X.prog X.w) k f fd ps sp) (hr : Room k X.A) (hb : Binds X.K fd ps ds) (hd : Vals dvs ds) (tk : Takes X W)
    (I : Inv X pins σ H s) (r : Vals vs us) (h : sp (vs ++ dvs) H Q (WE W σ)) : wpAny (model X.prog X.w) X.A (call (.ref f) us) (EP X pins σ Q) X.xe s := by
  have ra := r.append hd
  have ln : (us ++ ds).length = ps.length := ra.length ▸ F.len _ _ _ _ h
  have go := F.run X.A X.stack s H ⟨us, []⟩ (us ++ ds) (vs ++ dvs) Q (WE W σ) hr I.env0 (hb s us I.kIn ln) ra h
  refine wpAny_call (codeAny_mono go fun res s' hq => ?_)
  match res, hq with
  | .ok (.ret u), hq => exact I.after hq
  | .error z, hq => exact tk z s' (XE.of_call I (fun _ _ _ y => y) hq)
end
/-- a def that may raise -/
structure XalD (P : Program) (w : World) (K : PySem.W.Frag) (mg : Str → Option Value) (base : Heap) (k : Nat) (x : Str) (n : Nat) (dd : List D) (den : List D → W → Option (Xn × W)) : Prop where
  ex : ∃ (f : Addr) (fd : FuncData) (ps : List Str) (ds : List Value) (dvs : List V), FnOk P w K mg base (L2.CX P w) k f fd ps (spX ⟨K, mg⟩ n den) ∧ mg x = some (.ref f) ∧ PySem.W.keepIn K (.ref f) = true ∧ Binds K fd ps ds ∧ Vals dvs ds ∧ ∀ da G, RepAll ⟨K, mg⟩ da G dvs dd
structure XetD (P : Program) (w : World) (K : PySem.W.Frag) (mg : Str → Option Value) (base : Heap) (k : Nat) (cn m : Str) (n : Nat) (dd : List D) (den : List D → W → Option (Xn × W)) : Prop where
  ex : ∃ (C f : Addr) (fd : FuncData) (ps : List Str) (ds : List Value) (dvs : List V), mg cn = some (.ref C) ∧ Cls K C ∧ Meth K C m f ∧ FnOk P w K mg base (L2.CX P w) k f fd ps (spX ⟨K, mg⟩ n den) ∧ Binds K fd ps ds ∧ Vals dvs ds ∧ ∀ da G, RepAll ⟨K, mg⟩ da G dvs dd
def runX (den : List D → W → Option (Xn × W)) (ds : List D) : M Xn := fun ρ w => (den ds w).map fun z => (z.1, ρ, z.2)
theorem runX_some {den : List D → W → Option (Xn × W)} {ds : List D} {ρ ρ' : Env} {w w' : W} {x : Xn} (h : runX den ds ρ w = some (x, ρ', w')) : den ds w = some (x, w') ∧ ρ' = ρ := by
  unfold runX at h
  cases e : den ds w with
  | none =>
    rw [e] at h
    cases h
  | some z =>
    rw [e] at h
    cases h
    exact ⟨rfl, rfl⟩
def callX (den : List D → W → Option (Xn × W)) (dd : List D) (fa : M (List RV)) : M Xn := bindM fa fun rs => bindM (escAll rs) fun ds => runX den (ds ++ dd)
def methX (cn m : Str) (den : List D → W → Option (Xn × W)) (dd : List D) (fo : M RV) (fa : M (List RV)) : M Xn :=
  bindM fo fun r => bindM (selfR cn m r) fun d => bindM fa fun rs => bindM (escAll rs) fun ds => runX den (d :: (ds ++ dd))
theorem spX_of {c : Ct} {F : Fm} {O : List Addr} {ρ : Env} {w w' : W} {σ : L2.St} {H : Hp} {vs : List V} {ds : List D} {x : Xn} {Q : VK} {E : XK} {n : Nat} {den : List D → W → Option (Xn × W)} (S : SR c F O ρ w σ H) (hr : RepAll c F.dr.da (vis O H) vs ds) (hn : ds.length = n) (hd : den ds w = some (x, w'))
    (q : ∀ H' cls d, SR c F O ρ w' σ H' → Ex (vis O H) (vis O H') → XO c F.dr.da O H' x cls d → E cls d H') : spX c n den vs H Q E :=
  ⟨F.dr, O, w, ds, x, w', S.drO, S.trk, S.draw, hr, hn, hd, fun H' cls d kp hw xo => q H' cls d (S.kept kp hw) (vis_kp S.drO kp) xo⟩
section
variable {X : Cx} {e o : Expr} {es : List Expr} {pos p apos : Pos} {x m cn : Str} {k j n : Nat} {dd : List D} {den : List D → W → Option (Xn × W)} {fa : M (List RV)} {fo : M RV}
theorem fxe_call (cl : XalD X.prog X.w X.K X.mg X.base k x n dd den) (hr : Room j X.A) (hg : Gl X x) (ha : FA X (e :: es) fa) (hk : k ≤ j := by decide) (hn : (e :: es).length + dd.length = n := by rfl)
    (hdb : NotDebug x := by decide) (he : Plain1 X e es := by rfl) (hpl : PlainR X es pos := by rfl) : FXE X (.Call (.Name x p) (e :: es) [] pos) (callX den dd fa) := fun W xc F => by
  obtain ⟨f, fd, ps, ds, dvs, FO, hm, kp, b, d, rd⟩ := cl.ex
  refine ⟨fun pins s σ H Q I q => ?_⟩
  obtain ⟨O, ρ, w, y, ρ', w', S, ey, kk⟩ := q
  have ta : tA (ct X) F fa σ H fun vs H1 => spX (ct X) n den (vs ++ dvs) H1 Q (WE W σ) := by
    refine tA_then S ey fun vs O1 ρ1 w1 H1 rs S1 e1 R1 f1 h1 => ?_
    obtain ⟨ds1, ρ2, w2, h2, h3⟩ := bindM_some h1
    obtain ⟨rfl, O2, S2, k2, r2⟩ := escAll_ok S1 R1 h2
    obtain ⟨h4, rfl⟩ := runX_some h3
    refine spX_of S2 (r2.append (rd _ _)) ?_ h4 fun H' cls d S' x' xo => kk O2 H' cls d S' ((e1.trans k2).trans x') xo
    rw [List.length_append, r2.len2, ← R1.length, ha.len _ _ _ _ _ f1]
    exact hn
  refine wpAny_Call_Name_kw (ld_glob I hg hm ?_ hdb)
  exact PySem.W.callWith_K (h₀ := X.base) I.ok.mod.kin kp (thn ((ha.run F).run pos pins s σ H _ I ta) fun us s1 ⟨vs, H1, I1, r, q1⟩ => ⟨I1.kIn, run_call FO (hr.mono hk) b d xc.tk I1 r q1⟩) he hpl
end
end FD

end sec_XD2
section sec_XD3
set_option maxRecDepth 100000
set_option maxHeartbeats 5000000
/-! XD3: raise, exceptions' __init__, for loops that raise. -/
namespace FD
open PySem L2
variable [Tabl]
open PyProof.Rows (envOfC)
/-- __init__ of an exception with one field -/
def spXI (C : Addr) (f : Str) : Sp := fun vs H Q _ => ∃ (a : Addr) (v : V), vs = [.ref a, v] ∧ H a = some (exo a C none) ∧ ∀ dx, H dx = none → dx ≠ a → Q .non (upd (upd H dx (exd dx [(f, v)])) a (exo a C (some dx)))
section
variable {P : Program} {w : World} {K : PySem.W.Frag} {mg : Str → Option Value} {base : Heap}
theorem xinit_ok {qual : Str} {st : Stmt} {fI C : Addr} {fd : FuncData} {y fl : Str} {p1 p2 p3 p4 : Pos} (F : Fun K "__init__" qual st fI fd) (S : FnScope ["self", y] ["self", y] (defScope st)) (T : OexC K C) (hno : PySem.W.findIn K (.ref C) fl = some none)
    (hbd : defBody st = [.Assign [.Attribute (.Name "self" p1) fl p2] (.Name y p3) p4]) (v0 : Vis (defScope st) "self") (v1 : Vis (defScope st) y) (hyd : NotDebug y := by decide) (hyc : (y == ("__classdict__" : Str)) = false := by decide) :
    FnOk P w K mg base CX0 1 fI fd ["self", y] (spXI C fl) := by
  obtain ⟨oc, od, kV, doc, pm, an, cdv, ctt, osl, rfl, lk, hcd⟩ := F.ex
  refine fn_of (k := 0) lk hcd S (fun vs H Q E h => ?_) fun A outer s H vs Q E hr h => ?_
  · obtain ⟨a, v, rfl, _⟩ := h
    rfl
  · obtain ⟨a, v, rfl, ha, q⟩ := h
    rw [hbd]
    refine ⟨_, pss_one (ps_ost (pe_var (i := 0) rfl v0) (pe_var (i := 1) rfl v1 hyd hyc)), ?_⟩
    exact ⟨v, rfl, .ref a, rfl, a, C, rfl, T, hno, .inl ⟨ha, fun dx n ne => q dx n ne⟩⟩
end
/-- an own exception class: its one field, its __init__ -/
structure XcD (P : Program) (w : World) (K : PySem.W.Frag) (mg : Str → Option Value) (base : Heap) (cn f : Str) : Prop where
  ex : ∃ (C fI : Addr) (fd : FuncData) (ps : List Str), mg cn = some (.ref C) ∧ OexC K C ∧ PySem.W.findIn K (.ref C) "__init__" = some (some (.ref fI)) ∧ PySem.W.typeIn K (.ref fI) = some (.type "function") ∧ FnOk P w K mg base CX0 1 fI fd ps (spXI C f) ∧ Binds K fd ps []
def raiseX (cn f : Str) (fa : M (List RV)) : M Xn := bindM fa fun rs => bindM (escAll rs) fun ds => match ds with
  | [d] => pureM ⟨cn, [(f, d)]⟩
  | _ => failM
section
variable {X : Cx} {e : Expr} {pos p pos' : Pos} {cn f : Str} {j : Nat} {fa : M (List RV)}
theorem fx1_raise (xd : XcD X.prog X.w X.K X.mg X.base cn f) (hc : X.calm = true) (hr : Room j X.A) (hg : Gl X cn) (ha : FA X [e] fa) (hj : 2 ≤ j := by decide) (hdb : NotDebug cn := by decide) (he : Plain1 X e [] := by rfl) (hpl : PlainR X [] pos := by rfl) :
    FX1 X (.Raise (some (.Call (.Name cn p) [e] [] pos)) none pos') (raiseX cn f fa) := fun W xc F => by
  obtain ⟨C, fI, fd, ps, hm, T, iC, tI, FO, hb⟩ := xd.ex
  refine PS.wk (ps_raise hc xc.tk (pmk_oex (CX := CX0) T iC tI FO (hr.mono hj) hb .nil pass0 hg hm (ha.run F) hdb he hpl)) fun D σ H q => ?_
  obtain ⟨O, ρ, w, x, ρ', w', S, ey, kk⟩ := q
  refine tA_then S ey fun vs O1 ρ1 w1 H1 rs S1 e1 R1 f1 h1 => ?_
  obtain ⟨ds1, ρ2, w2, h2, h3⟩ := bindM_some h1
  obtain ⟨rfl, O2, S2, k2, r2⟩ := escAll_ok S1 R1 h2
  have hl : vs.length = 1 := by rw [← R1.length, ha.len _ _ _ _ _ f1]; rfl
  match vs, hl, ds1, r2, h3 with
  | [v], _, [d], .cons rv .nil, h3 =>
    cases h3
    refine ⟨by simp, fun a na => ⟨a, v, rfl, upd_same, fun dx ndx ne => ⟨rfl, dx, [(f, v)], upd_same, ?_, ?_, ?_⟩⟩⟩
    · rw [upd_ne ne, upd_same]
    · rw [upd_ne ne] at ndx
      exact ndx
    · rw [upd_ne ne] at ndx
      obtain ⟨H', eH⟩ : ∃ H', H' = upd (del (upd (upd (upd H1 a (exo a C none)) dx (exd dx [(f, v)])) a (exo a C (some dx))) a) dx (.xd [(f, v)]) := ⟨_, rfl⟩
      rw [← eH]
      have x3 : Ex H1 H' := fun b o hb => by
        rw [eH, upd_ne (ne_of_none hb ndx), del_ne (ne_of_none hb na), upd_ne (ne_of_none hb na), upd_ne (ne_of_none hb ndx), upd_ne (ne_of_none hb na)]
        exact hb
      have S3 := S2.grow x3
      have nO : dx ∉ O2 := fun z => by
        obtain ⟨o, q, _⟩ := S2.trk dx z
        rw [ndx] at q
        cases q
      refine kk σ O2 H' (.ref C) (some dx) S3 ((e1.trans k2).trans (vis_mono x3)) ⟨C, dx, [(f, v)], rfl, rfl, hm, ?_, .cons (rv.mono (vis_mono x3)) .nil⟩
      rw [vis_out nO, eH, upd_same]
end
/-! ### for -/
def forXL (asg : D → M Unit) (body : M Fl) (xb : M Xn) : List D → M Xn
  | [] => failM
  | d :: ds => bindM (asg d) fun _ => alt xb (bindM body fun fl => match fl with
    | .nx => forXL asg body xb ds
    | .ct => forXL asg body xb ds
    | _ => failM)
def forX (fi : M (List D)) (asg : D → M Unit) (body : M Fl) (xb : M Xn) : M Xn := bindM fi fun ds => forXL asg body xb ds
section
variable {X : Cx} {tg iter : Expr} {body : List Stmt} {pos : Pos} {fi : M (List D)} {js : List Nat} {g : D → M Unit} {fb : M Fl} {xb : M Xn}
theorem fx1_for (hc : X.calm = true) (hi : FI X tg iter fi) (hg : FG X tg js g) (hb : FSs X.nox body fb) (hx : FX X body xb) (hs : ∀ x, foldedSetIterable iter X.env x = pure x := by intro _; rfl) :
    FX1 X (.For tg iter body [] pos) (forX fi g fb xb) := fun W xc F => by
  have both : PSs X body (fun D σ H => tS (ct X) F fb D σ H ∨ tXS (ct X) F xb W D σ H) := ⟨fun pins s σ H D I q => by
    rcases q with q | q
    · exact (PSs.nox (hb F)).run pins s σ H D I q
    · exact (hx W xc F).run pins s σ H D I q⟩
  refine PS.wk (ps_for xc.po hc (hi F) (hg F) both hs) fun E σ H q => ?_
  obtain ⟨O, ρ, w, x, ρe, we, S, e, k⟩ := q
  obtain ⟨ds, ρ1, w1, e1, e2⟩ := bindM_some e
  refine ⟨O, ρ, w, ds, ρ1, w1, S, e1, fun J O1 H1 S1 x1 Wk => ?_⟩
  refine ⟨fun i m σ' H' => m = ds.length - i ∧ i ≤ ds.length ∧ ∃ O' ρ' w', SR (ct X) F O' ρ' w' σ' H' ∧ Ex (vis O1 H1) (vis O' H') ∧ forXL g fb xb (ds.drop i) ρ' w' = some (x, ρe, we), ⟨ds.length, by simp, Nat.zero_le _, O1, ρ1, w1, S1, Ex.refl _, by simpa using e2⟩, ?_⟩
  rintro i m σ' H' ⟨rfl, hle, O2, ρ2, w2, S2, x2, e3⟩
  obtain ⟨hgo, hstop⟩ := Wk i O2 H' x2 S2.trk S2.cel
  by_cases hlt : i < ds.length
  · obtain ⟨go, yld⟩ := hgo ds[i] (by simp [hlt])
    rw [List.drop_eq_getElem_cons hlt] at e3
    obtain ⟨_, ρ3, w3, e4, e5⟩ := bindM_some e3
    refine .inr ⟨go, fun σ5 H5 => ∃ O' ρ' w', SR (ct X) F O' ρ' w' σ5 H5 ∧ Ex (vis O1 H1) (vis O' H5) ∧ forXL g fb xb (ds.drop (i + 1)) ρ' w' = some (x, ρe, we), fun σ5 H5 n => ⟨ds.length - (i + 1), by omega, rfl, hlt, n⟩, fun y H3 hy => ?_⟩
    obtain ⟨x3, r3⟩ := yld y H3 hy
    refine ⟨O2, ρ2, w2, ds[i], ρ3, w3, S2.grow x3, r3, e4, fun σ6 O6 S6 x6 _ _ => ?_⟩
    have x7 : Ex (vis O1 H1) (vis O6 H3) := (x2.trans (vis_mono x3)).trans x6
    unfold alt at e5
    split at e5
    · rename_i z ez
      cases e5
      exact .inr ⟨O6, ρ3, w3, x, ρe, we, S6, ez, fun σ8 O8 H8 cls d S8 x8 xo => k σ8 O8 H8 cls d S8 ((x1.trans x7).trans x8) xo⟩
    · obtain ⟨f4, ρ4, w4, e6, e7⟩ := bindM_some e5
      refine .inl ⟨O6, ρ3, w3, f4, ρ4, w4, S6, e6, ?_⟩
      cases f4 with
      | nx => exact fun σ8 O8 H8 S8 x8 => ⟨O8, ρ4, w4, S8, x7.trans x8, e7⟩
      | ct => exact fun σ8 O8 H8 S8 x8 => ⟨O8, ρ4, w4, S8, x7.trans x8, e7⟩
      | bk => cases e7
      | ret r => cases e7
  · have ei : i = ds.length := by omega
    subst ei
    rw [List.drop_length] at e3
    cases e3
end
end FD

end sec_XD3
section sec_XD4
set_option maxRecDepth 100000
set_option maxHeartbeats 5000000
/-! XD4: exceptions that were caught and kept. -/
namespace FD
open PySem L2
variable [Tabl]
section
variable {X : Cx} {pins : List (Addr × PySem.Obj)} {σ : L2.St} {H : Hp} {s : Shared}
/-- what lies at a is an exception: tracked from here on -/
theorem inv_track {a C dx : Addr} {oe : PySem.Obj} {vs : Array Value} (I : Inv X pins σ H s) (ha : s.heap.get? a = some oe) (hc : oe.cls = .ref C) (hi : oe.dict = some dx) (hd : oe.data = .fields vs) (na : H a = none) (nL : a ≠ X.env.locals)
    (h0 : X.s_0.heap.get? a = none) (np : ∀ p ∈ X.pn ++ pins, p.1 ≠ a) : Inv X pins σ (upd H a (EXO a C dx)) s where
  ok := I.ok
  os := I.os
  bare := I.bare
  base :=
    { keep := I.base.keep
      slot := I.base.slot
      free := fun b o q n z => by
        have : b ≠ a := fun e => by rw [e, h0] at q; cases q
        rw [upd_ne this]
        exact I.base.free b o q n z
      there := I.base.there
      tups := fun b xs q => (upd_ne (ne_of_none (I.base.tups b xs q) na)).trans (I.base.tups b xs q)
      frzs := fun b o u q => (upd_ne (ne_of_none (I.base.frzs b o u q) na)).trans (I.base.frzs b o u q)
      tbls := fun b ps q => by
        obtain ⟨m, e⟩ := I.base.tbls b ps q
        exact ⟨m, (upd_ne (ne_of_none e na)).trans e⟩ }
  loc := I.loc
  cell := I.cell
  free := (upd_ne (Ne.symm nL)).trans I.free
  freeC := fun x c e => by
    obtain ⟨v, hv⟩ := I.cell x c e
    have : c ≠ a := fun z => by
      subst z
      obtain ⟨o, h1, h2⟩ := hv
      rw [ha] at h1
      cases h1
      rw [hd] at h2
      cases h2
    rw [upd_ne this]
    exact I.freeC x c e
  pin := fun p hp => by
    obtain ⟨q1, q2, q3⟩ := I.pin p hp
    exact ⟨q1, (upd_ne (np p hp)).trans q2, q3⟩
  hok := L2.HOk.laidN I.hok (fun _ _ q => q) na ⟨⟨oe, vs, ha, hc, hi, hd⟩, ⟨oe, ha⟩, fun h1 h2 ⟨oe', vs', k1, k2⟩ k => ⟨oe', vs', k _ k1, k2⟩⟩
  len := I.len
end
/-- the wish of 'except x as n: y = n' -/
def wKeep (K : PySem.W.Frag) (c : Value) (i j : Nat) (D : Ends) : WX := fun cls d σ H => PySem.W.exmOne K cls c = some true ∧ ∃ C dx, cls = .ref C ∧ d = some dx ∧
  ∀ a, H a = none → D.nx (((σ.set i (some (.ref a))).set j (some (.ref a))).set i none) (upd H a (EXO a C dx))
section
variable {X : Cx} {x n y : Str} {c : Value} {i j : Nat} {body : List Stmt} {np p1 p2 p3 p4 pos : Pos} {tb : WX → TS}
theorem ps_keep (hs : X.stack = X.env :: X.outer) (hf : X.env.frame = some X.env.locals) (hex : X.ex = []) (hN : X.N.Nodup) (hi : X.N[i]? = some n) (hln : X.env.kindOf n = some .local) (hnd : NotDebug n) (hnc : (n == ("__classdict__" : Str)) = false) (hj : X.N[j]? = some y) (hy : Loc X.env.scope y) (hfy : X.fn y = true) (hc : Names X x c)
    (hb : ∀ (W : WX) (pn : List (Addr × PySem.Obj)) (xe : Value → Shared → Prop), Takes (X.tr pn xe) W → PassesOwn (model X.prog X.w) X.A X.env xe → PSs (X.tr pn xe) body (tb W)) :
    PS X (.Try body [.ExceptHandler (some (.Name x np)) (some n) [.Assign [.Name y p1] (.Name n p2) p3] p4] [] [] pos) (fun D σ H => tb (wKeep X.K c i j D) D σ H) := ⟨fun pins s σ H D I h => by
  have fr : X.A.frames = some (X.env :: X.outer) := hs ▸ I.ok.frames
  have ok := I.ok
  refine wpAny_Try_except (wpAny_mono ((hb _ (X.pn ++ pins) _ (fun u s1 air => ?_) PassesOwn.looking).run [] s σ H D (I.toTry _) h) (fun fl s1 out => ?_) fun _ _ z => z)
  · obtain ⟨a, B, sI, pins', σ', H', cls, d, rfl, J', nb, up, sky, na, os, ag, em, C, dx, rfl, rfl, go⟩ := air
    have J := J'.ofTry ok
    rw [show (X.tr (X.pn ++ pins) _).stack = X.env :: X.outer from hs] at sky
    refine Sky.land Zc.steady fr hf sky fun h3 f3 up3 => ?_
    have J3 : Inv X pins σ' H' { s1 with heap := h3 } := J.landed nb f3.1 (up.trans up3) os ag
    obtain ⟨o3, v3, at3, z3, d3⟩ := f3.there
    have nfr : a ∉ frs (X.env :: X.outer) := fun m => by
      obtain ⟨_, o', e', no⟩ := f3.2.2.1.mem m
      rw [at3] at e'
      cases e'
      exact no _ d3
    have nI : sI.heap.get? a = none := by
      cases q : sI.heap.get? a with
      | none => rfl
      | some o =>
        have := nb a o q (hs ▸ nfr)
        rw [f3.2.1] at this
        cases this
    have nL : a ≠ X.env.locals := fun z => nfr (List.mem_filterMap.mpr ⟨X.env, by simp, z ▸ hf⟩)
    have nF : a ∉ X.fs := fun m => by
      obtain ⟨v, hv, q⟩ := List.mem_filterMap.mp m
      exact nfr (List.mem_filterMap.mpr ⟨v, List.mem_cons_of_mem _ hv, q⟩)
    have n0 : X.s_0.heap.get? a = none := by
      cases q : X.s_0.heap.get? a with
      | none => rfl
      | some o =>
        obtain ⟨o', e'⟩ := J.base.there a o q (by rw [hex]; simp)
        rw [nI] at e'
        cases e'
    have npn : ∀ p ∈ X.pn ++ pins, p.1 ≠ a := fun p hp z => by
      have := (J.pin p hp).1
      rw [z, nI] at this
      cases this
    have SU := J3.suite at3 d3 na nL nF
    have cl : ∀ {Q : Value → Shared → Prop} {E : Value → Shared → Prop}, Q c { s1 with heap := h3 } → wpAny (model X.prog X.w) (X.A.mark (some (.ref a))) (eval (.Name x np) X.env) Q E { s1 with heap := h3 } := fun q => by
      obtain ⟨g, db, m | ⟨m, b, nm⟩⟩ := hc
      · exact ld_glob (X := X.suite a ((a, o3) :: (X.pn ++ pins))) SU g m q db
      · exact ld_blt (X := X.suite a ((a, o3) :: (X.pn ++ pins))) SU g m b q nm db
    refine wpAny_handleBy_cons (codeAny_handlers_test (cl ?_)) (by intro z; cases z)
    have ty : PySem.W.Looks (model X.prog X.w) h3 (typeOf (.ref a)) (.ref C) := fun _ _ _ _ k q => wpAny_typeOf_ref (k _ _ at3) (z3.1 ▸ q)
    refine (PySem.W.exm_one J3.kIn ty em).here ?_
    refine codeAny_handlers_suite_as (HandSPX.lands_againZ f3 fun h4 f4 up4 => ?_)
    have J4 : Inv X pins σ' H' { s1 with heap := h4 } := J.landed nb f4.1 ((up.trans up3).trans up4) os ag
    obtain ⟨o4, v4, at4, z4, d4⟩ := f4.there
    have S4 := J4.suite at4 d4 na nL nF
    refine store_ok (X := X.suite a ((a, o4) :: (X.pn ++ pins))) (v := .ref a) S4 hN hi (.inl hln) rfl (fun s5 S5 => ?_) (.inr hln)
    have one := (pss_one (X := X.suite a ((a, o4) :: (X.pn ++ pins))) (ps_set (pos := p3) (pos' := p1) hN hj hy (pe_var (pos := p2) hi (.inl hln) hnd hnc) rfl (.inl hfy))).run [] s5 _ H' { nx := fun σ6 H6 => σ6 = (σ'.set i (some (.ref a))).set j (some (.ref a)) ∧ H6 = H', rt := fun _ _ => False } S5 ⟨.ref a, List.getElem?_set_self (by rw [J.len]; exact (List.getElem?_eq_some_iff.mp hi).1), rfl, rfl⟩
    refine wpAny_mono one (fun fl s6 out => ?_) fun _ _ z => z.elim
    match fl, out with
    | .next, ⟨σ6, H6, S6, e6, e6'⟩ =>
      subst e6 e6'
      refine gone_ok (X := X.suite a ((a, o4) :: (X.pn ++ pins))) S6 hN hi hln fun s7 S7 => ?_
      obtain ⟨at7, _⟩ := S7.pin (a, o4) (by simp)
      exact ⟨_, _, inv_track (S7.unsuite ok) at7 z4.1 z4.2 d4 na nL n0 npn, go a na⟩
    | .ret u, ⟨_, _, _, _, _, z⟩ => exact z.elim
    | .brk, ⟨_, _, _, z⟩ => exact z.elim
    | .cont, ⟨_, _, _, z⟩ => exact z.elim
  · match fl, out with
    | .next, ⟨σ', H', J, q⟩ => exact wpAny_execs_nil ⟨σ', H', J.ofTry ok, q⟩
    | .brk, ⟨σ', H', J, q⟩ => exact ⟨σ', H', J.ofTry ok, q⟩
    | .cont, ⟨σ', H', J, q⟩ => exact ⟨σ', H', J.ofTry ok, q⟩
    | .ret u, ⟨v, σ', H', J, r, q⟩ => exact ⟨v, σ', H', J.ofTry ok, r, q⟩⟩
end
end FD

end sec_XD4
section sec_XD5
set_option maxRecDepth 100000
set_option maxHeartbeats 5000000
/-! XD5: try .. except x as n: y = n; isinstance and fields of what was caught. -/
namespace FD
open PySem L2
variable [Tabl]
section
variable {c : Ct} {F : Fm} {O : List Addr} {ρ : Env} {w : W} {σ : L2.St} {H : Hp} {v : V} {da : Option Addr}
theorem SR.void (S : SR c F O ρ w σ H) (i : Nat) (u : Option V) : SR c F O (ρ.set i none) w (σ.set i u) H where
  len := by rw [List.length_set, List.length_set]; exact S.len
  base := S.base
  new := S.new
  sub := S.sub
  drs := S.drs
  trk := S.trk
  draw := S.draw
  val := fun j d h => by
    rcases getElem?_set_some h with ⟨rfl, z⟩ | ⟨n, h⟩
    · cases z
    · obtain ⟨x, h1, h2⟩ := S.val j d h
      exact ⟨x, by rw [List.getElem?_set_ne n]; exact h1, h2⟩
  own := fun j d h => by
    rcases getElem?_set_some h with ⟨rfl, z⟩ | ⟨n, h⟩
    · cases z
    · obtain ⟨a, o, h1, h2⟩ := S.own j d h
      exact ⟨a, o, by rw [List.getElem?_set_ne n]; exact h1, h2⟩
  uni := fun j j' d d' a h h' q q' => by
    rcases getElem?_set_some h with ⟨rfl, z⟩ | ⟨n, h⟩
    · cases z
    · rcases getElem?_set_some h' with ⟨rfl, z⟩ | ⟨n', h'⟩
      · cases z
      · rw [List.getElem?_set_ne n] at q
        rw [List.getElem?_set_ne n'] at q'
        exact S.uni j j' d d' a h h' q q'
/-- an exception of the class at C: with a dict, or with none -/
def XAt (H : Hp) (a C : Addr) : Prop := (∃ dx fs, H a = some (EXO a C dx) ∧ H dx = some (.xd fs)) ∨ H a = some (ExO (.ref C) a)
theorem RepP.exc {cn : Str} {gs : List (Str × D)} (h : RepP c da O H v (.exc cn gs)) : ∃ a C, v = .ref a ∧ c.mg cn = some (.ref C) ∧ XAt H a C ∧ (gs = [] ∨ ∃ dx fs, H a = some (EXO a C dx) ∧ H dx = some (.xd fs) ∧ RepF c da (vis O H) fs gs) := by
  rcases h with h | ⟨a, o, _, _, h⟩
  · cases h with
    | exc e1 e2 m r => exact ⟨_, _, rfl, m, .inl ⟨_, _, vis_ex _ _ e1, vis_ex _ _ e2⟩, .inr ⟨_, _, vis_ex _ _ e1, vis_ex _ _ e2, r⟩⟩
    | exo e m => exact ⟨_, _, rfl, m, .inr (vis_ex _ _ e), .inl rfl⟩
  · rcases h with ⟨_, _, _, e, _⟩ | ⟨_, _, _, e, _⟩ | ⟨_, _, _, e, _⟩ | ⟨_, _, _, _, _, _, e, _⟩ <;> cases e
end
/-! ### try -/
def tryM (ex : List Str) (i j : Nat) (fb : M Fl) (gb : M Xn) : M Fl := fun ρ w => match fb ρ w with
  | some z => some z
  | none => match gb ρ w with
    | some (x, ρ', w') => if ex.contains x.cn then some (.nx, (((ρ'.set i none).set j (some (.val (.exc x.cn x.gs)))).set i none), w') else none
    | none => none
/-- the classes that the clause takes -/
def XsD (K : PySem.W.Frag) (mg : Str → Option Value) (c : Value) (ex : List Str) : Prop := ∀ cn ∈ ex, ∃ C, mg cn = some (.ref C) ∧ PySem.W.exmOne K (.ref C) c = some true
section
variable {X : Cx} {x n y : Str} {c : Value} {i j : Nat} {body : List Stmt} {np p1 p2 p3 p4 pos : Pos} {ex : List Str} {fb : M Fl} {gb : M Xn}
theorem fs_tryK (hs : X.stack = X.env :: X.outer) (hf : X.env.frame = some X.env.locals) (hex : X.ex = []) (hN : X.N.Nodup) (hi : X.N[i]? = some n) (hln : X.env.kindOf n = some .local) (hj : X.N[j]? = some y) (hy : Loc X.env.scope y) (hfy : X.fn y = true) (hc : Names X x c) (hE : XsD X.K X.mg c ex)
    (hb : ∀ pn, FSs (X.tr pn fun _ _ => False) body fb) (hx : ∀ pn xe, FX (X.tr pn xe) body gb) (hnd : NotDebug n := by decide) (hnc : (n == ("__classdict__" : Str)) = false := by decide) :
    FS X (.Try body [.ExceptHandler (some (.Name x np)) (some n) [.Assign [.Name y p1] (.Name n p2) p3] p4] [] [] pos) (tryM ex i j fb gb) := fun F => by
  refine PS.wk (ps_keep (tb := fun W D σ H => tS (ct X) F fb D σ H ∨ tXS (ct X) F gb W D σ H) hs hf hex hN hi hln hnd hnc hj hy hfy hc fun W pn xe tk po => ⟨fun pins s σ H D I q => ?_⟩) fun E σ H q => ?_
  · rcases q with q | q
    · exact (PSs.nox (X := X.tr pn xe) (hb pn F)).run pins s σ H D I q
    · exact (hx pn xe W ⟨tk, po⟩ F).run pins s σ H D I q
  · obtain ⟨O, ρ, w, fl, ρ', w', S, e, k⟩ := q
    unfold tryM at e
    split at e
    · rename_i z ez
      cases e
      exact .inl ⟨O, ρ, w, fl, ρ', w', S, ez, k⟩
    · split at e
      · rename_i xn ρ1 w1 eg
        split at e
        · rename_i hin
          cases e
          refine .inr ⟨O, ρ, w, xn, ρ1, w', S, eg, fun σ1 O1 H1 cls d S1 x1 xo => ?_⟩
          obtain ⟨C, dx, fs, rfl, rfl, mC, vd, rf⟩ := xo
          obtain ⟨C', mC', em⟩ := hE xn.cn (by simpa using hin)
          rw [show X.mg xn.cn = some (.ref C) from mC] at mC'
          cases mC'
          refine ⟨em, C, dx, rfl, rfl, fun a na => ?_⟩
          have g := Ex.new (o := EXO a C dx) na
          have nO : a ∉ O1 := fun z => by
            obtain ⟨o, q, _⟩ := S1.trk a z
            rw [na] at q
            cases q
          have r : Rep (ct X) F.dr.da (vis O1 (upd H1 a (EXO a C dx))) (.ref a) (.exc xn.cn xn.gs) := .exc (C := C) (dx := dx) (fs := fs) (by rw [vis_out nO, upd_same]) (vis_mono g _ _ vd) mC (rf.mono (vis_mono g))
          exact k _ O1 _ ((((S1.grow g).void i (some (.ref a))).setVal j r).void i none) (x1.trans (vis_mono g))
        · cases e
      · cases e
end
/-! ### isinstance, fields -/
abbrev XTy := L2.ExcC
section
variable {X : Cx} {pins : List (Addr × PySem.Obj)} {σ : L2.St} {H : Hp} {s : Shared} {a C dx : Addr} {fs : List (Str × V)}
theorem exc_at (I : Inv X pins σ H s) (ea : H a = some (EXO a C dx)) (ed : H dx = some (.xd fs)) : ∃ (oe od : PySem.Obj) (mA : Str → Option Value), PySem.W.InstAt s.heap a oe C (some od) ∧ (∀ f, PySem.W.lookIn f od = some (mA f)) ∧ ∀ f, RelO (fs.lookup f) (mA f) := by
  obtain ⟨⟨oe, vs, h1, h2, h3, h4⟩, _⟩ := (show ObjOk X.prog X.w H s.heap a (EXO a C dx) from I.hok a _ ea)
  obtain ⟨mA, hn, hr⟩ := (show ObjOk X.prog X.w H s.heap dx (.xd fs) from I.hok dx _ ed)
  obtain ⟨od, ho, hl⟩ := lookIn_ns hn
  refine ⟨oe, od, mA, ⟨h1, h2, ?_, ?_⟩, hl, hr⟩
  · unfold PySem.W.notCls
    rw [h4]
  · rw [h3]
    exact ho
theorem xat_at (I : Inv X pins σ H s) (e : XAt H a C) : ∃ (oe : PySem.Obj) (o' : Option PySem.Obj), PySem.W.InstAt s.heap a oe C o' := by
  rcases e with ⟨dx, fs, ea, ed⟩ | e
  · obtain ⟨oe, od, _, J, _, _⟩ := exc_at I ea ed
    exact ⟨oe, _, J⟩
  · obtain ⟨⟨oe, vs, h1, h2, h3, _⟩, _⟩ := (show ObjOk X.prog X.w H s.heap a (ExO (.ref C) a) from I.hok a _ e)
    refine ⟨oe, none, h1, h2.1, ?_, ?_⟩
    · unfold PySem.W.notCls
      rw [h3]
    · rw [h2.2]
      trivial
theorem kit_exc (T : XTy X.K C) {oe : PySem.Obj} {o' : Option PySem.Obj} : PySem.W.KitX X.K (.ref a) (.ref C) (fun h => PySem.W.InstAt h a oe C o') := by
  obtain ⟨cd, hc, _⟩ := PySem.W.any_some T.hd
  exact PySem.W.kitx_exc (by rw [hc]; rfl) T.hg T.hk T.hs T.ha T.hn T.ht T.hm
def rIsx (K : PySem.W.Frag) : List V → Hp → VK → Prop := fun xs H Q => ∃ (a C : Addr) (c : V) (u : Value) (b : Bool), xs = [.ref a, c] ∧ XAt H a C ∧ XTy K C ∧ ClsV c u ∧ PySem.W.kitOne K (.ref C) u = some b ∧ Q (.bl b) H
theorem call_isx : CallR X (.builtin "isinstance") (rIsx X.K) := fun pins s σ H xs us Q I r h => by
  obtain ⟨a, C, c, u, b, rfl, ea, T, k, e, q⟩ := h
  obtain ⟨u1, u2, rfl, r1, r2⟩ := vals2 r
  obtain rfl := k.eq r2
  cases r1
  obtain ⟨oe, o', J⟩ := xat_at I ea
  exact PySem.W.kia_one (kit_exc T) I.kIn J e (fun z => nomatch z) fun tk => ⟨.bl b, H, I.tok tk, rfl, q⟩
end
structure KxD (K : PySem.W.Frag) (mg : Str → Option Value) (ok : Value → Bool → Prop) (ic : List (Str × Bool)) : Prop where
  all : ∀ p ∈ ic, ∃ C, mg p.1 = some (.ref C) ∧ XTy K C ∧ ok (.ref C) p.2
def isxD (ic : List (Str × Bool)) : D → Option RV
  | .exc cn _ => (ic.lookup cn).map fun b => .sh (.bl b)
  | _ => none
def xfD (cns : List Str) (f : Str) : D → Option RV
  | .exc cn gs => if cns.contains cn then (gs.lookup f).map .sh else none
  | _ => none
structure KfD (K : PySem.W.Frag) (mg : Str → Option Value) (cns : List Str) (f : Str) : Prop where
  all : ∀ cn ∈ cns, ∃ C, mg cn = some (.ref C) ∧ XfC K C ∧ PySem.W.findIn K (.ref C) f = some none
section
variable {X : Cx} {a c1 e : Expr} {cs : List Expr} {pos p p2 : Pos} {ic : List (Str × Bool)} {cns : List Str} {f : Str} {fa : M RV}
theorem fe_isx {u : V} {uv : Value} (hg : Gl X "isinstance") (hm : X.mg "isinstance" = none) (hc : PE X c1 (tC u)) (hu : ClsV u uv) (hk : KxD X.K X.mg (fun t b => PySem.W.kitOne X.K t uv = some b) ic) (ha : FE X a fa)
    (hs : Plain1 X a [c1] := by rfl) (hs2 : Plain1 X c1 [] := by rfl) (hpl : PlainR X [c1] pos := by rfl) : FE X (.Call (.Name "isinstance" p) [a, c1] [] pos) (op1M (isxD ic) fa) := fun F =>
  PE.wk (pe_callB call_isx hg hm bt_isi (pa_cons (ha F) (pks_cons hc pks_nil hs2) hs) (by decide) (by decide) hs hpl) fun σ H Q q => by
    obtain ⟨O, ρ, w, r, ρ', w', S, e, k⟩ := q
    refine tE_then S e fun v O1 ρ1 w1 H1 r1 S1 e1 R1 h1 => ?_
    obtain ⟨d1, r', q1, eg, ez⟩ := lift1_some h1
    cases ez
    have P := R1.hold.peek S1 q1
    cases d1 with
    | exc cn gs =>
      obtain ⟨y, C, rfl, m, ea, _⟩ := P.exc
      unfold isxD at eg
      dsimp only at eg
      cases q : ic.lookup cn with
      | none =>
        rw [q] at eg
        cases eg
      | some b =>
        rw [q] at eg
        cases eg
        obtain ⟨C', m', T, o⟩ := hk.all _ (lookup_mem q)
        rw [show X.mg cn = some (.ref C) from m] at m'
        cases m'
        exact ⟨y, C, u, uv, b, rfl, ea, T, hu, o, k _ O1 H1 S1 e1 (Rep.bl b)⟩
    | _ => cases eg
theorem fe_xf (hk : KfD X.K X.mg cns f) (he : FE X e fa) (hb : attributeBase e f X.env (eval e X.env) = eval e X.env := by rfl) : FE X (.Attribute e f pos) (op1M (xfD cns f) fa) := fun F => ⟨fun pins s σ H Q I q => by
  obtain ⟨O, ρ, w, r, ρ', w', S, ee, k⟩ := q
  have t : tE (ct X) F fa σ H fun v H1 => ∃ y C dx fs u, v = .ref y ∧ H1 y = some (EXO y C dx) ∧ H1 dx = some (.xd fs) ∧ XfC X.K C ∧ PySem.W.findIn X.K (.ref C) f = some none ∧ fs.lookup f = some u ∧ Q u H1 := by
    refine tE_then S ee fun v O1 ρ1 w1 H1 r1 S1 e1 R1 h1 => ?_
    obtain ⟨d1, r', q1, eg, ez⟩ := lift1_some h1
    cases ez
    have P := R1.hold.peek S1 q1
    cases d1 with
    | exc cn gs =>
      obtain ⟨y, C, rfl, m, _, z⟩ := P.exc
      unfold xfD at eg
      dsimp only at eg
      split at eg
      · rename_i hin
        rcases z with rfl | ⟨dx, fs, ea, ed, rf⟩
        · cases eg
        cases q : gs.lookup f with
        | none =>
          rw [q] at eg
          cases eg
        | some d =>
          rw [q] at eg
          cases eg
          obtain ⟨C', m', T, no⟩ := hk.all cn (by simpa using hin)
          rw [show X.mg cn = some (.ref C) from m] at m'
          cases m'
          obtain ⟨u, lu, ru⟩ := rf.lookup q
          exact ⟨y, C, dx, fs, u, rfl, ea, ed, T, no, lu, k _ O1 H1 S1 e1 ru⟩
      · cases eg
    | _ => cases eg
  refine attr_of hb (thn ((he F).run pins s σ H _ I t) fun z s1 ⟨v, H1, I1, rv, y, C, dx, fs, u, ev, ea, ed, T, no, lu, qu⟩ => ?_)
  subst ev
  cases rv
  obtain ⟨oe, od, mA, J, hl, hr⟩ := exc_at I1 ea ed
  obtain ⟨z, hz, rz⟩ := RelO.some_of (v := u) (o := mA f) (by rw [← lu]; exact hr f)
  exact HandSPX.exc_get I1.kIn J T.ga T.gg T.exC (PySem.W.findObj_own T.hdC no rfl (by rw [hl, hz])) (handed_of rz) ⟨u, H1, I1.tok _, rz, qu⟩⟩
end
end FD

end sec_XD5
section sec_XD6
set_option maxRecDepth 100000
set_option maxHeartbeats 5000000
/-! XD6: short forms for the printed derivations of runs that raise. -/
namespace FD
open PySem L2
variable [Tabl]
/-- the clause's class, and the classes that it takes -/
structure XcatD (K : PySem.W.Frag) (mg : Str → Option Value) (x : Str) (ex : List Str) : Prop where
  ex : ∃ C, mg x = some (.ref C) ∧ XsD K mg (.ref C) ex
structure IsxC (K : PySem.W.Frag) (mg : Str → Option Value) (cn : Str) (ic : List (Str × Bool)) : Prop where
  ex : ∃ C, mg cn = some (.ref C) ∧ KxD K mg (fun t b => PySem.W.kitOne K t (.ref C) = some b) ic
section
variable {X : Cx} {x n y cn : Str} {i j : Nat} {body : List Stmt} {np p1 p2 p3 p4 p pos : Pos} {ex : List Str} {fb : M Fl} {gb : M Xn} {ic : List (Str × Bool)} {a : Expr} {fa : M RV}
theorem fs_try (hs : X.stack = X.env :: X.outer) (hf : X.env.frame = some X.env.locals) (hex : X.ex = []) (hN : X.N.Nodup) (hi : X.N[i]? = some n) (hln : X.env.kindOf n = some .local) (hj : X.N[j]? = some y) (hy : Loc X.env.scope y) (hfy : X.fn y = true) (hg : Gl X x) (hE : XcatD X.K X.mg x ex)
    (hb : ∀ pn, FSs (X.tr pn fun _ _ => False) body fb) (hx : ∀ pn xe, FX (X.tr pn xe) body gb) (hxd : NotDebug x := by decide) (hnd : NotDebug n := by decide) (hnc : (n == ("__classdict__" : Str)) = false := by decide) :
    FS X (.Try body [.ExceptHandler (some (.Name x np)) (some n) [.Assign [.Name y p1] (.Name n p2) p3] p4] [] [] pos) (tryM ex i j fb gb) := by
  obtain ⟨C, m, k⟩ := hE.ex
  exact fs_tryK hs hf hex hN hi hln hj hy hfy ⟨hg, hxd, .inl m⟩ k hb hx hnd hnc
theorem fe_isxC (h : IsxC X.K X.mg cn ic) (hgc : Gl X cn) (hm : X.mg "isinstance" = none) (hg : Gl X "isinstance") (ha : FE X a fa) (hd : NotDebug cn := by decide)
    (hs : Plain1 X a [.Name cn p] := by rfl) (hs2 : Plain1 X (.Name cn p) [] := by rfl) (hpl : PlainR X [.Name cn p] pos := by rfl) : FE X (.Call (.Name "isinstance" p1) [a, .Name cn p] [] pos) (op1M (isxD ic) fa) := by
  obtain ⟨C, mc, k⟩ := h.ex
  exact fe_isx hg hm (pe_glob (v := .ref C) hgc mc rfl hd) (.own C) k ha hs hs2 hpl
end
end FD

end sec_XD6
section sec_XD7
set_option maxRecDepth 100000
set_option maxHeartbeats 5000000
/-! XD7: isinstance of a caught exception, with a tuple of own classes. -/
namespace FD
open PySem L2
variable [Tabl]
structure IsxT3 (K : PySem.W.Frag) (mg : Str → Option Value) (ca cb cc : Str) (ic : List (Str × Bool)) : Prop where
  ex : ∃ A B C : Addr, mg ca = some (.ref A) ∧ mg cb = some (.ref B) ∧ mg cc = some (.ref C) ∧ KxD K mg (fun t b => PySem.W.kitAny K t [.ref A, .ref B, .ref C] = some b) ic
structure IsxT2 (K : PySem.W.Frag) (mg : Str → Option Value) (ca cb : Str) (ic : List (Str × Bool)) : Prop where
  ex : ∃ A B : Addr, mg ca = some (.ref A) ∧ mg cb = some (.ref B) ∧ KxD K mg (fun t b => PySem.W.kitAny K t [.ref A, .ref B] = some b) ic
section
variable {X : Cx} {a : Expr} {cs : List Expr} {fa : M RV} {ic : List (Str × Bool)} {p p2 pa pb pc pos : Pos} {ca cb cc : Str}
end
end FD

end sec_XD7
section sec_XD8
set_option maxRecDepth 100000
set_option maxHeartbeats 5000000
/-! XD8: own operators and subscripts that raise; C(..) that raises. -/
namespace FD
open PySem L2
variable [Tabl]
structure XpcD (P : Program) (w : World) (K : PySem.W.Frag) (mg : Str → Option Value) (base : Heap) (k : Nat) (cn nm : Str) (n : Nat) (den : List D → W → Option (Xn × W)) : Prop where
  ex : ∃ (C f : Addr) (fd : FuncData) (ps : List Str), mg cn = some (.ref C) ∧ PySem.W.selfFirst K C = true ∧ PySem.W.findIn K (.ref C) nm = some (some (.ref f)) ∧ PySem.W.isFn K (.ref f) = true ∧ PySem.W.fnIn K f = true ∧ FnOk P w K mg base (L2.CX P w) k f fd ps (spX ⟨K, mg⟩ n den) ∧ Binds K fd ps []
def opOX (cn : Str) (den : List D → W → Option (Xn × W)) (fa fb : M RV) : M Xn := bindM fa fun r1 => bindM fb fun r2 => bindM (insR cn r1) fun d1 => bindM (insR cn r2) fun d2 => runX den [d1, d2]
section
variable {X : Cx} {a b : Expr} {pos : Pos} {cn : Str} {k j : Nat} {den : List D → W → Option (Xn × W)} {fa fb : M RV}
end
end FD

end sec_XD8
section sec_FD46
set_option maxRecDepth 100000
set_option maxHeartbeats 400000
/-! FD46: f(k = e, ..), every parameter by its name, in any order. -/
namespace FD
open PySem L2
variable [Tabl]
/-- what stands at some places -/
def pickL {α : Type} (ix : List Nat) (l : List α) : List α := ix.filterMap fun i => l[i]?
theorem pickL_cons {α : Type} {i : Nat} {ix : List Nat} {l : List α} : pickL (i :: ix) l = (match l[i]? with
    | some x => x :: pickL ix l
    | none => pickL ix l) := by
  unfold pickL
  rw [List.filterMap_cons]
  cases l[i]? <;> rfl
theorem pick_len {α : Type} {l : List α} : ∀ {ix : List Nat}, (∀ i ∈ ix, i < l.length) → (pickL ix l).length = ix.length
  | [], _ => rfl
  | i :: ix, h => by
    have hi := h i List.mem_cons_self
    rw [pickL_cons, List.getElem?_eq_getElem hi]
    simp [pick_len (ix := ix) fun j hj => h j (List.mem_cons_of_mem _ hj)]
theorem vals_at : ∀ {vs : List V} {us : List Value}, Vals vs us → ∀ i : Nat, (vs[i]? = none ∧ us[i]? = none) ∨ ∃ v u, vs[i]? = some v ∧ us[i]? = some u ∧ RelV v u
  | _, _, .nil, i => .inl ⟨by simp, by simp⟩
  | _, _, .cons (a := v) (b := u) r _, 0 => .inr ⟨_, _, rfl, rfl, r⟩
  | _, _, .cons _ t, i + 1 => by simpa using vals_at t i
theorem vals_pickL {vs : List V} {us : List Value} (h : Vals vs us) : ∀ ix : List Nat, Vals (pickL ix vs) (pickL ix us)
  | [] => .nil
  | i :: ix => by
    rw [pickL_cons, pickL_cons]
    rcases vals_at h i with ⟨a, b⟩ | ⟨v, u, a, b, r⟩
    · rw [a, b]
      exact vals_pickL h ix
    · rw [a, b]
      exact .cons r (vals_pickL h ix)
theorem RepAll.pickL {c : Ct} {da : Option Addr} {G : Hp} {vs : List V} {ds : List D} (h : RepAll c da G vs ds) : ∀ ix : List Nat, RepAll c da G (pickL ix vs) (pickL ix ds)
  | [] => .nil
  | i :: ix => by
    rw [pickL_cons, pickL_cons]
    cases q : ds[i]? with
    | some d =>
      obtain ⟨v, e, r⟩ := h.get q
      rw [e]
      exact .cons r (h.pickL ix)
    | none =>
      have e : vs[i]? = none := by
        rw [List.getElem?_eq_none_iff] at q ⊢
        rw [h.length]
        exact q
      rw [e]
      exact h.pickL ix
/-- a function whose parameters are given by name: the words in the order of the call, ix: where each parameter stands there -/
structure CkwD (P : Program) (w : World) (K : PySem.W.Frag) (mg : Str → Option Value) (base : Heap) (k : Nat) (x : Str) (n : Nat) (ks : List Str) (ix : List Nat) (den : List D → W → Option (RV × W)) : Prop where
  ex : ∃ (f : Addr) (fd : FuncData) (ps : List Str), mg x = some (.ref f) ∧ PySem.W.keepIn K (.ref f) = true ∧ FnOk P w K mg base CX0 k f fd ps (spD ⟨K, mg⟩ n den) ∧
    ∀ (s : Shared) (ws : List Value), K.In s.heap → ws.length = ks.length → BindsTo s fd ⟨[], ks.zip ws⟩ (ps.zip (pickL ix ws))
def callKM (ix : List Nat) (den : List D → W → Option (RV × W)) (fa : M (List RV)) : M RV := bindM fa fun rs => bindM (escAll rs) fun ds => runD den (pickL ix ds)
section
variable {X : Cx} {kws : List Keyword} {pos p : Pos} {x : Str} {k j n : Nat} {ks : List Str} {ix : List Nat} {den : List D → W → Option (RV × W)} {fa : M (List RV)}
/-- the words of a call -/
def KwsAre (X : Cx) (pos : Pos) (kws : List Keyword) (ks : List Str) : Prop :=
  ((backToKw pos (keywordEach kws X.env)).all fun z => z.1.isSome) = true ∧ (backToKw pos (keywordEach kws X.env)).filterMap (fun z => z.1) = ks ∧
    (((backTo pos (starEach [] X.env)).any fun z => z.1) || (backToKw pos (keywordEach kws X.env)).any fun z => z.1.isNone) = false
theorem fe_callKw (cl : CkwD X.prog X.w X.K X.mg X.base k x n ks ix den) (hr : Room j X.A) (hg : Gl X x) (ha : FK X kws fa) (hk : k ≤ j := by decide) (hl : kws.length = ks.length := by rfl) (hi : ∀ i ∈ ix, i < kws.length := by decide) (hn : ix.length = n := by rfl)
    (hdb : NotDebug x := by decide) (hw : KwsAre X pos kws ks := by exact ⟨rfl, rfl, rfl⟩) : FE X (.Call (.Name x p) [] kws pos) (callKM ix den fa) := fun F => ⟨fun pins s σ H Q I q => by
  obtain ⟨f, fd, ps, hm, kp, FO, bd⟩ := cl.ex
  obtain ⟨hall, hks, hpl⟩ := hw
  obtain ⟨O, ρ, w, r, ρ', w', S, ey, kk⟩ := q
  have t0 : tA (ct X) F fa σ H fun vs H1 => vs.length = ks.length ∧ spD (ct X) n den (pickL ix vs) H1 Q E0 := by
    refine tA_then S ey fun vs O1 ρ1 w1 H1 rs S1 e1 R1 f1 h1 => ?_
    obtain ⟨ds1, ρ2, w2, h2, h3⟩ := bindM_some h1
    obtain ⟨rfl, O2, S2, k2, r2⟩ := escAll_ok S1 R1 h2
    obtain ⟨r', w3, h4, ez⟩ := runD_some h3
    cases ez
    have lv : vs.length = kws.length := by rw [← R1.length, ha.len _ _ _ _ _ f1]
    refine ⟨lv.trans hl, sp_of (E := E0) S2 (r2.pickL ix) ?_ h4 fun v H' S3 e3 R3 => kk v O2 H' S3 ((e1.trans k2).trans e3) (R3.less (e1.trans k2))⟩
    rw [pick_len fun i h => by rw [r2.len2, lv]; exact hi i h]
    exact hn
  refine wpAny_Call_Name_kw (ld_glob I hg hm (PySem.W.callWith_KW0 (h₀ := X.base) I.ok.mod.kin kp hall (thn ((ha.run F).run pos pins s σ H _ I t0) fun ws s2 ⟨zs, H2, I2, rz, l1, q2⟩ => ⟨I2.kIn, ?_⟩) hpl) hdb)
  rw [hks]
  have l2 : ws.length = ks.length := rz.length.symm.trans l1
  refine wpAny_call (codeAny_mono (FO.run X.A X.stack s2 H2 ⟨[], ks.zip ws⟩ (pickL ix ws) (pickL ix zs) Q E0 (hr.mono hk) I2.env0 (bd s2 ws I2.kIn l2) (vals_pickL rz ix) q2) fun res s' hq => ?_)
  match res, hq with
  | .ok (.ret u), hq => exact I2.after hq⟩
end
end FD

end sec_FD46
section sec_XD9
set_option maxRecDepth 100000
set_option maxHeartbeats 400000
/-! XD9: f(k = e, ..) that raises. -/
namespace FD
open PySem L2
variable [Tabl]
structure XkwD (P : Program) (w : World) (K : PySem.W.Frag) (mg : Str → Option Value) (base : Heap) (k : Nat) (x : Str) (n : Nat) (ks : List Str) (ix : List Nat) (den : List D → W → Option (Xn × W)) : Prop where
  ex : ∃ (f : Addr) (fd : FuncData) (ps : List Str), mg x = some (.ref f) ∧ PySem.W.keepIn K (.ref f) = true ∧ FnOk P w K mg base (L2.CX P w) k f fd ps (spX ⟨K, mg⟩ n den) ∧
    ∀ (s : Shared) (ws : List Value), K.In s.heap → ws.length = ks.length → BindsTo s fd ⟨[], ks.zip ws⟩ (ps.zip (pickL ix ws))
def callKX (ix : List Nat) (den : List D → W → Option (Xn × W)) (fa : M (List RV)) : M Xn := bindM fa fun rs => bindM (escAll rs) fun ds => runX den (pickL ix ds)
section
variable {X : Cx} {kws : List Keyword} {pos p : Pos} {x : Str} {k j n : Nat} {ks : List Str} {ix : List Nat} {den : List D → W → Option (Xn × W)} {fa : M (List RV)}
theorem fxe_callKw (cl : XkwD X.prog X.w X.K X.mg X.base k x n ks ix den) (hr : Room j X.A) (hg : Gl X x) (ha : FK X kws fa) (hk : k ≤ j := by decide) (hl : kws.length = ks.length := by rfl) (hi : ∀ i ∈ ix, i < kws.length := by decide) (hn : ix.length = n := by rfl)
    (hdb : NotDebug x := by decide) (hw : KwsAre X pos kws ks := by exact ⟨rfl, rfl, rfl⟩) : FXE X (.Call (.Name x p) [] kws pos) (callKX ix den fa) := fun W xc F => by
  obtain ⟨f, fd, ps, hm, kp, FO, bd⟩ := cl.ex
  obtain ⟨hall, hks, hpl⟩ := hw
  refine ⟨fun pins s σ H Q I q => ?_⟩
  obtain ⟨O, ρ, w, y, ρ', w', S, ey, kk⟩ := q
  have ta : tA (ct X) F fa σ H fun vs H1 => vs.length = ks.length ∧ spX (ct X) n den (pickL ix vs) H1 Q (WE W σ) := by
    refine tA_then S ey fun vs O1 ρ1 w1 H1 rs S1 e1 R1 f1 h1 => ?_
    obtain ⟨ds1, ρ2, w2, h2, h3⟩ := bindM_some h1
    obtain ⟨rfl, O2, S2, k2, r2⟩ := escAll_ok S1 R1 h2
    obtain ⟨h4, rfl⟩ := runX_some h3
    have lv : vs.length = kws.length := by rw [← R1.length, ha.len _ _ _ _ _ f1]
    refine ⟨lv.trans hl, spX_of S2 (r2.pickL ix) ?_ h4 fun H' cls d S' x' xo => kk O2 H' cls d S' ((e1.trans k2).trans x') xo⟩
    rw [pick_len fun i h => by rw [r2.len2, lv]; exact hi i h]
    exact hn
  refine wpAny_Call_Name_kw (ld_glob I hg hm (PySem.W.callWith_KW0 (h₀ := X.base) I.ok.mod.kin kp hall (thn ((ha.run F).run pos pins s σ H _ I ta) fun ws s2 ⟨zs, H2, I2, rz, l1, q2⟩ => ⟨I2.kIn, ?_⟩) hpl) hdb)
  rw [hks]
  have l2 : ws.length = ks.length := rz.length.symm.trans l1
  refine wpAny_call (codeAny_mono (FO.run X.A X.stack s2 H2 ⟨[], ks.zip ws⟩ (pickL ix ws) (pickL ix zs) Q (WE W σ) (hr.mono hk) I2.env0 (bd s2 ws I2.kIn l2) (vals_pickL rz ix) q2) fun res s' hq => ?_)
  match res, hq with
  | .ok (.ret u), hq => exact I2.after hq
  | .error z, hq => exact xc.tk z s' (XE.of_call I2 (fun _ _ _ y => y) hq)
end
section
variable {P : Program} {w : World} {K : PySem.W.Frag} {mg : Str → Option Value} {base : Heap}
open PyProof.Rows (envOfC)
/-- a def with defaults that raises -/
theorem xdef_okD {x qual : Str} {params : Arguments} {body : List Stmt} {scope : Scope} {dvs : List V} {kws : List (Str × V)} {f : Addr} {fd : FuncData} {N ps : List Str} {k : Nat} {g : M Xn} (F : FunD K x qual params body scope dvs kws f fd) (S : FnScope N ps scope)
    (hb : ∀ (cdv : Value) (A : Around) (outer : List PySem.Env) (s : Shared) (H : Hp) (E : XK), Room k (A.deeper (envOfC qual scope s.heap.objs.size f cdv)) → FX (cxOf (L2.CX P w) P w K mg base N qual scope f cdv A outer s H E) body g) :
    FnOk P w K mg base (L2.CX P w) (k + 1) f fd ps (spX ⟨K, mg⟩ ps.length (denX N.length g)) := by
  obtain ⟨oc, od, dV, kV, doc, pm, an, cdv, ctt, osl, rfl, lk, hcd, _, _⟩ := F.ex
  refine fn_of lk hcd S (fun vs H Q E h => ?_) fun A outer s H vs Q E hr h => ?_
  · obtain ⟨dr, O0, wd, ds, y, w', _, _, _, h4, h5, _⟩ := h
    rw [h4.length, h5]
  · obtain ⟨dr, O0, wd, ds, y, w', h1, h2, h3, h4, h5, h6, k6⟩ := h
    obtain ⟨ρ', e⟩ := denX_some h6
    refine ⟨_, hb cdv A outer s H E hr (fun cls d _ H' => E cls d H') ⟨takes_of rfl rfl rfl rfl, passes_of rfl⟩ ⟨dr, O0, H⟩, ?_⟩
    exact ⟨O0, _, wd, y, ρ', w', start_sr h1 h2 h3 h4, e, fun σ' O' H' cls d S' x' xo => k6 H' cls d S'.base S'.draw (xo.mono (vis_sub S'.sub))⟩
end
end FD

end sec_XD9
section sec_LM1
set_option maxRecDepth 100000
set_option maxHeartbeats 5000000
/-! LM1: objects that are tracked for a while (a lambda, its cells): data without lambdas, and calls' ends with and without them. -/
namespace FD
open PySem L2
variable [Tabl]
def dropC (C : List Addr) (H : Hp) : Hp := fun b => if b ∈ C then none else H b
theorem drop_in {C : List Addr} {H : Hp} {b : Addr} (h : b ∈ C) : dropC C H b = none := if_pos h
theorem drop_out {C : List Addr} {H : Hp} {b : Addr} (h : b ∉ C) : dropC C H b = H b := if_neg h
theorem drop_some {C : List Addr} {H : Hp} {b : Addr} {o : HO} (h : dropC C H b = some o) : b ∉ C ∧ H b = some o := by
  by_cases q : b ∈ C
  · rw [drop_in q] at h
    cases h
  · exact ⟨q, by rwa [drop_out q] at h⟩
mutual
def lf : D → Bool
  | .tup ds => lfs ds
  | .ktup ds => lfs ds
  | .lst ds => lfs ds
  | .dic ps => lfp ps
  | .dit ps => lfp ps
  | .fdit ps => lfp ps
  | .ins _ fs => lff fs
  | .exc _ fs => lff fs
  | .lam _ _ => false
  | _ => true
def lfs : List D → Bool
  | [] => true
  | d :: r => lf d && lfs r
def lfp : List (D × D) → Bool
  | [] => true
  | (_, d) :: r => lf d && lfp r
def lff : List (Str × D) → Bool
  | [] => true
  | (_, d) :: r => lf d && lff r
end
/-- C holds objects that stay as they are -/
structure Still (C : List Addr) (G : Hp) : Prop where
  is : ∀ a ∈ C, ∃ o, G a = some (StO a o)
  noC : ∀ a ∈ C, ∀ q, G a ≠ some (LamX.CodeO a q)
  noX : ∀ a ∈ C, ∀ C' dx, G a ≠ some (EXO a C' dx)
  noN : ∀ a ∈ C, ∀ u, G a ≠ some (ExO u a)
theorem still_of {P : Program} {w : World} {H : Hp} {h : Heap} {C : List Addr} (k : HOk P w H h) (s : ∀ a ∈ C, ∃ o, H a = some (StO a o) ∧ ∀ vs, o.data ≠ .fields vs) : Still C H := by
  refine ⟨fun a q => ?_, fun a q x z => ?_, fun a q C' dx z => ?_, fun a q u z => ?_⟩
  · obtain ⟨o, e, _⟩ := s a q
    exact ⟨o, e⟩
  · obtain ⟨o, e, n⟩ := s a q
    have p1 : h.get? a = some o := (k a _ e).1
    obtain ⟨oc, vs, t, p2, p3, _⟩ := (k a _ z).1
    rw [p1] at p2
    cases p2
    exact n _ p3
  · obtain ⟨o, e, n⟩ := s a q
    have p1 : h.get? a = some o := (k a _ e).1
    obtain ⟨oc, vs, p2, _, _, p3⟩ := (k a _ z).1
    rw [p1] at p2
    cases p2
    exact n _ p3
  · obtain ⟨o, e, n⟩ := s a q
    have p1 : h.get? a = some o := (k a _ e).1
    obtain ⟨oc, vs, p2, _, p3, _⟩ := (k a _ z).1
    rw [p1] at p2
    cases p2
    exact n _ p3
theorem Still.vis {C O : List Addr} {G : Hp} (s : Still C G) (d : ∀ a ∈ C, a ∉ O) : Still C (FD.vis O G) := by
  refine ⟨fun a q => ?_, fun a q x z => ?_, fun a q C' dx z => ?_, fun a q u z => ?_⟩
  · rw [vis_out (d a q)]
    exact s.is a q
  · rw [vis_out (d a q)] at z
    exact s.noC a q x z
  · rw [vis_out (d a q)] at z
    exact s.noX a q C' dx z
  · rw [vis_out (d a q)] at z
    exact s.noN a q u z
theorem vis_drop {C O : List Addr} {G : Hp} : FD.vis O (dropC C G) = dropC C (FD.vis O G) := by
  funext b
  unfold FD.vis dropC
  by_cases h1 : b ∈ O <;> by_cases h2 : b ∈ C <;> simp [h1, h2]
section
variable {c : Ct} {da : Option Addr} {G : Hp} {C : List Addr}
theorem Still.keep (h : Still C G) {a : Addr} {u : HO} (e : G a = some u) (n : ∀ φ, u ≠ .ext φ) : dropC C G a = some u := by
  rw [drop_out fun q => ?_]
  · exact e
  · obtain ⟨o, e2⟩ := h.is a q
    rw [e] at e2
    cases e2
    exact n _ rfl
theorem Still.rd (h : Still C G) {a : Addr} {u : HO} (e : Rd G a u) (n : ∀ φ, u ≠ .ext φ) : Rd (dropC C G) a u := by
  rcases e with e | ⟨o, e⟩
  · exact .inl (h.keep e n)
  · exact .inr ⟨o, h.keep e fun φ z => by cases z⟩
mutual
theorem Rep.off (h : Still C G) : ∀ {v : V} {d : D}, Rep c da G v d → lf d = true → Rep c da (dropC C G) v d
  | _, _, .non, _ => .non
  | _, _, .bl b, _ => .bl b
  | _, _, .int i, _ => .int i
  | _, _, .str x, _ => .str x
  | _, _, .ty n, _ => .ty n
  | _, _, .draw e, _ => .draw e
  | _, _, .tup e r, l => .tup (h.keep e fun φ z => by cases z) (RepAll.off h r (by simpa [lf] using l))
  | _, _, .ktup e r, l => .ktup (e.elim (fun e => .inl (h.rd e fun φ z => by cases z)) .inr) (RepAll.off h r (by simpa [lf] using l))
  | _, _, .lst e r, l => .lst (h.keep e fun φ z => by cases z) (RepAll.off h r (by simpa [lf] using l))
  | _, _, .scr e, _ => .scr (e.elim (fun e => .inl (h.rd e fun φ z => by cases z)) .inr)
  | _, _, .dK e r, l => .dK (h.keep e fun φ z => by cases z) (RepKV.off h r (by simpa [lf] using l))
  | _, _, .dT e r, l => .dT (h.keep e fun φ z => by cases z) (RepKT.off h r (by simpa [lf] using l))
  | _, _, .fdT e r, l => .fdT (h.keep e fun φ z => by cases z) (RepKT.off h r (by simpa [lf] using l))
  | _, _, .exc e e2 m r, l => .exc (by rw [drop_out fun q => h.noX _ q _ _ e]; exact e) (h.keep e2 fun φ z => by cases z) m (RepF.off h r (by simpa [lf] using l))
  | _, _, .exo e m, l => .exo (by rw [drop_out fun q => h.noN _ q _ e]; exact e) m
  | _, _, .ins e m r, l => .ins (h.keep e fun φ z => by cases z) m (RepF.off h r (by simpa [lf] using l))
  | _, _, .lam _ _ _ _ _, l => by simp [lf] at l
theorem RepAll.off (h : Still C G) : ∀ {v : List V} {d : List D}, RepAll c da G v d → lfs d = true → RepAll c da (dropC C G) v d
  | _, _, .nil, _ => .nil
  | _, _, .cons a r, l => by
    simp only [lfs, Bool.and_eq_true] at l
    exact .cons (Rep.off h a l.1) (RepAll.off h r l.2)
theorem RepKV.off (h : Still C G) : ∀ {v : List (Key × V)} {d : List (D × D)}, RepKV c da G v d → lfp d = true → RepKV c da (dropC C G) v d
  | _, _, .nil, _ => .nil
  | _, _, .cons a r, l => by
    simp only [lfp, Bool.and_eq_true] at l
    exact .cons (Rep.off h a l.1) (RepKV.off h r l.2)
theorem RepKT.off (h : Still C G) : ∀ {v : List (List Key × V)} {d : List (D × D)}, RepKT c da G v d → lfp d = true → RepKT c da (dropC C G) v d
  | _, _, .nil, _ => .nil
  | _, _, .cons a r, l => by
    simp only [lfp, Bool.and_eq_true] at l
    exact .cons (Rep.off h a l.1) (RepKT.off h r l.2)
theorem RepF.off (h : Still C G) : ∀ {v : List (Str × V)} {d : List (Str × D)}, RepF c da G v d → lff d = true → RepF c da (dropC C G) v d
  | _, _, .nil, _ => .nil
  | _, _, .cons a r, l => by
    simp only [lff, Bool.and_eq_true] at l
    exact .cons (Rep.off h a l.1) (RepF.off h r l.2)
end
theorem DrawAt.off {dr : Dr} {w : W} (h : Still C G) (d : DrawAt dr w G) : DrawAt dr w (dropC C G) := by
  refine ⟨fun t q => ?_, fun p hp => ?_⟩
  · obtain ⟨a1, a2, a3, a4⟩ := d.1 t q
    exact ⟨h.keep a1 (fun φ z => by cases z), h.keep a2 (fun φ z => by cases z), h.keep a3 (fun φ z => by cases z), a4⟩
  · obtain ⟨ps, e1, e2, e3⟩ := d.2 p hp
    refine ⟨ps, h.keep e1 (fun φ z => by cases z), e2, fun pos cv hc => ?_⟩
    obtain ⟨c', z1, z2⟩ := e3 pos cv hc
    exact ⟨c', z1, by rw [drop_out fun q => h.noC _ q _ z2]; exact z2⟩
end
/-! ### the heap with and without them -/
section
variable {P : Program} {w : World} {H H1 H2 H' : Hp} {h h' : Heap} {fs : List Addr} {C : List Addr}
theorem stO_ok {a : Addr} {o : PySem.Obj} (e : h.get? a = some o) : ObjOk P w H h a (StO a o) := ⟨e, ⟨o, e⟩, fun _ _ p q => q _ p⟩
theorem stO_get {a : Addr} {o : PySem.Obj} (k : HOk P w H h) (e : H a = some (StO a o)) : h.get? a = some o := (k a _ e).1
/-- H2 is H1 and C besides, which stand still in h and stay tracked in H' -/
structure Besides (H1 H2 : Hp) (h : Heap) (fs C : List Addr) : Prop where
  none : ∀ a ∈ C, H1 a = Option.none ∧ a ∉ fs
  is : ∀ a ∈ C, ∃ o, h.get? a = some o ∧ H2 a = some (StO a o)
  out : ∀ a, a ∉ C → H2 a = H1 a
theorem un_drop (b : Besides H1 H2 h fs C) (u : Un fs [] H2 H' h h') (k : HOk P w H' h') (st : ∀ a ∈ C, ∀ o, H2 a = some (StO a o) → H' a = some (StO a o)) : Un fs [] H1 (dropC C H') h h' ∧ HOk P w (dropC C H') h' := by
  have stay : ∀ {a : Addr} {o : HO}, H' a = some o → (∀ φ, o ≠ .ext φ) → dropC C H' a = some o := fun {a o} e n => by
    rw [drop_out fun q => ?_]
    · exact e
    · obtain ⟨ob, _, e2⟩ := b.is a q
      have z := st a q ob e2
      rw [e] at z
      exact n _ (Option.some.inj z)
  have up : ∀ {a : Addr} {o : HO}, H1 a = some o → H2 a = some o ∧ a ∉ C := fun {a o} e => by
    have : a ∉ C := fun q => by
      rw [(b.none a q).1] at e
      cases e
    exact ⟨by rw [b.out a this]; exact e, this⟩
  refine ⟨⟨fun a o e n nf nx => ?_, fun a o e n hf nx => ?_, fun a o e n nx => ?_, fun a o e nx => u.there a o e nx, fun a xs e => ?_, fun a o v e => ?_, fun a ps e => ?_⟩, fun a o e => ?_⟩
  · by_cases q : a ∈ C
    · obtain ⟨ob, e1, e2⟩ := b.is a q
      rw [e] at e1
      cases e1
      exact stO_get k (st a q _ e2)
    · exact u.keep a o e (by rw [b.out a q]; exact n) nf nx
  · have q : a ∉ C := fun q => (b.none a q).2 hf
    exact u.slot a o e (by rw [b.out a q]; exact n) hf nx
  · by_cases q : a ∈ C
    · exact drop_in q
    · rw [drop_out q]
      exact u.free a o e (by rw [b.out a q]; exact n) nx
  · obtain ⟨e1, q⟩ := up e
    rw [drop_out q]
    exact u.tups a xs e1
  · obtain ⟨e1, q⟩ := up e
    rw [drop_out q]
    exact u.frzs a o v e1
  · obtain ⟨e1, q⟩ := up e
    rw [drop_out q]
    exact u.tbls a ps e1
  · obtain ⟨q, e1⟩ := drop_some e
    exact (k a o e1).stay (fun _ _ _ z => z) (fun b z => stay z fun φ y => by cases y) (fun b xs z => stay z fun φ y => by cases y)
/-- C back again -/
def backC (C : List Addr) (H H' : Hp) : Hp := fun b => if b ∈ C then H b else H' b
theorem back_in {b : Addr} (q : b ∈ C) : backC C H H' b = H b := if_pos q
theorem back_out {b : Addr} (q : b ∉ C) : backC C H H' b = H' b := if_neg q
theorem un_back (s : Still C H) (hf : ∀ a ∈ C, a ∉ fs) (k0 : HOk P w H h) (u : Un fs [] (dropC C H) H' h h') (k : HOk P w H' h') : Un fs [] H (backC C H H') h h' ∧ HOk P w (backC C H H') h' ∧ Ex H' (backC C H H') ∧ ∀ a ∈ C, H' a = none := by
  have gone : ∀ a ∈ C, H' a = none := fun a q => by
    obtain ⟨o, e⟩ := s.is a q
    exact u.free a o (stO_get k0 e) (drop_in q) (by simp)
  have ex : Ex H' (backC C H H') := fun a o e => by
    rw [back_out fun q => ?_]
    · exact e
    · rw [gone a q] at e
      cases e
  have dn : ∀ {a : Addr} {o : HO}, H a = some o → (∀ φ, o ≠ .ext φ) → dropC C H a = some o := fun e n => s.keep e n
  refine ⟨⟨fun a o e n nf nx => ?_, fun a o e n hf nx => ?_, fun a o e n nx => ?_, fun a o e nx => u.there a o e nx, fun a xs e => ?_, fun a o v e => ?_, fun a ps e => ?_⟩, fun a o e => ?_, ex, gone⟩
  · exact u.keep a o e (by unfold dropC; split <;> simp [n]) nf nx
  · exact u.slot a o e (by unfold dropC; split <;> simp [n]) hf nx
  · have q : a ∉ C := fun q => by
      obtain ⟨o, z⟩ := s.is a q
      rw [n] at z
      cases z
    rw [back_out q]
    exact u.free a o e (by rw [drop_out q]; exact n) nx
  · exact ex _ _ (u.tups a xs (dn e fun φ y => by cases y))
  · exact ex _ _ (u.frzs a o v (dn e fun φ y => by cases y))
  · obtain ⟨m, z⟩ := u.tbls a ps (dn e fun φ y => by cases y)
    exact ⟨m, ex _ _ z⟩
  · by_cases q : a ∈ C
    · obtain ⟨ob, z⟩ := s.is a q
      rw [back_in q, z] at e
      cases e
      exact stO_ok (u.keep a ob (stO_get k0 z) (drop_in q) (hf a q) (by simp))
    · rw [back_out q] at e
      exact (k a o e).stay (fun _ _ _ z => z) (fun b z => ex _ _ z) (fun b xs z => ex _ _ z)
end
end FD

end sec_LM1
section sec_LM2
set_option maxRecDepth 100000
set_option maxHeartbeats 5000000
/-! LM2: a lambda's run, as a promise to any caller. -/
namespace FD
open PySem L2
open PyProof.Rows (envOfC)
variable [Tabl]
abbrev lamE (l : LamSyn) (cl : List (Str × Addr)) (L f c' : Addr) : PySem.Env := PySem.W.envX l.q l.scope L f (.ref c') cl
/-- the context of the lambda's body -/
def lamC (P : Program) (w : World) (K : PySem.W.Frag) (mg : Str → Option Value) (base : Heap) (l : LamSyn) (cl : List (Str × Addr)) (f c' : Addr) (A : Around) (outer : List PySem.Env) (s : Shared) (H : Hp) (CX : CXT) (E : XK) : Cx where
  prog := P
  w := w
  K := K
  mg := mg
  base := base
  A := A.deeper (lamE l cl s.heap.objs.size f c')
  N := l.N
  s_0 := s
  H_0 := H
  env := lamE l cl s.heap.objs.size f c'
  outer := outer
  stack := lamE l cl s.heap.objs.size f c' :: outer
  ex := []
  fn := fun _ => false
  calm := true
  pn := []
  xe := fun e s' => wpAny (model P w) (A.deeper (lamE l cl s.heap.objs.size f c')) (leaving (lamE l cl s.heap.objs.size f c') e) (fun _ s'' => CX outer H s E e s'') (fun e' s'' => CX outer H s E e' s'') s'
/-- the lambda has captured names and globals only -/
structure LamN (l : LamSyn) : Prop where
  kind : l.scope.kind = .function
  co : l.scope.isCoroutine = false
  gen : l.scope.isGenerator = false
  own : ∀ y ∈ l.scope.names, y.2 ≠ .local ∧ y.2 ≠ .cell
def lamNB (l : LamSyn) : Bool := decide (l.scope.kind = .function) && !l.scope.isCoroutine && !l.scope.isGenerator && l.scope.names.all fun y => !decide (y.2 = .local) && !decide (y.2 = .cell)
theorem lamN_by {l : LamSyn} (h : lamNB l = true) : LamN l := by
  unfold lamNB at h
  simp only [Bool.and_eq_true, Bool.not_eq_true', decide_eq_true_eq, decide_eq_false_iff_not, List.all_eq_true] at h
  exact ⟨h.1.1.1, h.1.1.2, h.1.2, h.2⟩
section
variable {P : Program} {w : World} {K : PySem.W.Frag} {mg : Str → Option Value} {base : Heap} {l : LamSyn} {cl : List (Str × Addr)} {f c' : Addr} {A : Around} {outer : List PySem.Env} {s : Shared} {H : Hp} {CX : CXT} {E : XK} {vs : List V}
theorem env0_drop {C : List Addr} (e : Env0 P w K mg base A outer s H) (st : Still C H) : Env0 P w K mg base A outer s (dropC C H) := by
  refine ⟨e.frames, e.mod, fun b o z => ⟨(e.bs b o z).1, ?_⟩, e.bsz, e.funs, fun b z => ?_, fun a o z => ?_, e.bare⟩
  · unfold dropC
    split
    · rfl
    · exact (e.bs b o z).2
  · unfold dropC
    split
    · rfl
    · exact e.frf b z
  · obtain ⟨_, z1⟩ := drop_some z
    exact (e.hok a o z1).stay (fun _ _ _ z => z) (fun b z => st.keep z fun φ y => by cases y) (fun b xs z => st.keep z fun φ y => by cases y)
theorem lam_inv {h₁ : Heap} {tk : Nat} {C : List Addr} (n : LamN l) (st : Still C H) (look : ∀ {x c}, cl.lookup x = some c → c ∈ C) (ck : LCells H l cl vs) (hl : vs.length = l.N.length) (e0 : Env0 P w K mg base A outer s H) (hd : A.handled = none)
    (hns : h₁.Ns s.heap.objs.size fun y => ([] : List (Str × Value)).reverse.lookup y) (kp : ∀ b o, s.heap.get? b = some o → h₁.get? b = some o) :
    Inv (lamC P w K mg base l cl f c' A outer s (dropC C H) CX E) [] (L2.start l.N vs) (dropC C H) { s with heap := h₁, toks := tk } := by
  have eD := env0_drop e0 st
  refine ⟨⟨eD.mod, n.kind, rfl, rfl, Nat.le_refl _, ck.inj, fun y hy => ?_, fun y c z _ => ?_, fun _ => hd, Around.frames_deeper eD.frames, .inr ⟨rfl, rfl⟩, fun b z => absurd (show b ∈ ([] : List Addr) from z) (by simp), eD.bs, eD.bsz, fun b _ _ z => absurd (show b ∈ ([] : List Addr) from z) (by simp), fun b z => absurd (show b ∈ ([] : List Addr) from z) (by simp), eD.funs, eD.frf⟩, rfl, eD.bare, Un.kept kp, ⟨_, hns, fun i y v e1 e2 e3 => ?_⟩, fun y c e => ?_, ?_, fun y c e => ?_, fun q hq => absurd (show q ∈ ([] : List (Addr × PySem.Obj)) ++ [] from hq) (by simp), eD.hok.kept kp, ?_⟩
  · have hy : l.scope.names.lookup y = some .cell ∨ l.scope.names.lookup y = some .free := hy
    rcases hy with hy | hy
    · exact absurd rfl (n.own _ (PySem.mem_of_lookup hy)).2
    · exact ck.has y hy
  · have z : false = true := z
    cases z
  · have e3 : Vis l.scope y := e3
    have e1 : l.N[i]? = some y := e1
    rcases e3 with k | k | k
    · exact absurd rfl (n.own _ (PySem.mem_of_lookup k)).1
    · exact absurd rfl (n.own _ (PySem.mem_of_lookup k)).2
    · have hv : vs[i]? = some v := by
        have hi : i < l.N.length := (List.getElem?_eq_some_iff.mp e1).1
        unfold L2.start at e2
        rw [List.getElem?_append_left (by simp; omega), List.getElem?_map] at e2
        obtain ⟨v', q1, q2⟩ := Option.map_eq_some_iff.mp e2
        cases q2
        exact q1
      obtain ⟨c, o, u, q1, q2, q3, q4⟩ := ck.val i y v e1 hv
      exact ⟨u, q4, .inr ⟨.inr k, c, q1, o, kp _ _ (stO_get e0.hok q2), q3⟩⟩
  · have e : cl.lookup y = some c := e
    obtain ⟨o, v, q1, q2⟩ := ck.at_ y c e
    exact ⟨v, o, kp _ _ (stO_get e0.hok q1), q2⟩
  · exact eD.hok.fresh (Nat.le_refl _)
  · have e : cl.lookup y = some c := e
    exact drop_in (look e)
  · show (L2.start l.N vs).length = l.N.length
    unfold L2.start
    simp
    omega
end
end FD

end sec_LM2
section sec_LM3
set_option maxRecDepth 100000
set_option maxHeartbeats 5000000
/-! LM3: a lambda's promise, and x() where x holds a lambda. -/
namespace FD
open PySem L2
open PyProof.Rows (envOfC)
variable [Tabl]
def denE (n : Nat) (g : M RV) : List D → W → Option (RV × W) := fun ds w => if ds.length = n then (match g (startE n ds) w with
  | some (r, ρ', w') => (outR ρ' r).map fun r' => (r', w')
  | none => none) else none
def denEX (n : Nat) (g : M Xn) : List D → W → Option (Xn × W) := fun ds w => if ds.length = n then (g (startE n ds) w).map fun z => (z.1, z.2.2) else none
/-- the cells that a lambda looks at -/
def cellsOf (cl : List (Str × Addr)) : List Addr := (cl.map (·.1)).filterMap fun x => cl.lookup x
theorem cells_look {cl : List (Str × Addr)} {x : Str} {c : Addr} (h : cl.lookup x = some c) : c ∈ cellsOf cl :=
  List.mem_filterMap.mpr ⟨x, List.mem_map.mpr ⟨(x, c), PySem.mem_of_lookup h, rfl⟩, h⟩
theorem cells_of {cl : List (Str × Addr)} {c : Addr} (h : c ∈ cellsOf cl) : ∃ x, cl.lookup x = some c := by
  obtain ⟨x, _, e⟩ := List.mem_filterMap.mp h
  exact ⟨x, e⟩
section
variable {P : Program} {w : World} {K : PySem.W.Frag} {mg : Str → Option Value} {base : Heap} {l : LamSyn} {cl : List (Str × Addr)} {vs : List V} {H H' : Hp} {h B h' : Heap} {O : List Addr} {fs C : List Addr}
theorem LCells.still (k : HOk P w H h) (ck : LCells H l cl vs) : Still (cellsOf cl) H := still_of k fun a q => by
  obtain ⟨x, e⟩ := cells_of q
  obtain ⟨o, v, e1, e2⟩ := ck.at_ x a e
  exact ⟨o, e1, fun vs z => by rw [e2] at z; cases z⟩
theorem LCells.dis (ck : LCells (vis O H) l cl vs) : ∀ a ∈ cellsOf cl, a ∉ O := fun a q => by
  obtain ⟨x, e⟩ := cells_of q
  obtain ⟨o, v, e1, _⟩ := ck.at_ x a e
  exact (vis_some e1).1
theorem ub_back (s : Still C H) (hf : ∀ a ∈ C, a ∉ fs) (k0 : HOk P w H h) (u : UB fs (dropC C H) H' h B h') (k : HOk P w H' B) : UB fs H (backC C H H') h B h' ∧ HOk P w (backC C H H') B ∧ Ex H' (backC C H H') ∧ (∀ a ∈ C, H' a = none) ∧ ∀ a ∈ C, ∃ o, B.get? a = some o := by
  have gone : ∀ a ∈ C, H' a = none := fun a q => by
    obtain ⟨o, e⟩ := s.is a q
    exact u.free a o (stO_get k0 e) (drop_in q)
  have stays : ∀ a ∈ C, ∀ o, H a = some (StO a o) → B.get? a = some o := fun a q o e => u.keep a o (stO_get k0 e) (drop_in q) (hf a q)
  have ex : Ex H' (backC C H H') := fun a o e => by
    rw [back_out fun q => ?_]
    · exact e
    · rw [gone a q] at e
      cases e
  have dn : ∀ {a : Addr} {o : HO}, H a = some o → (∀ φ, o ≠ .ext φ) → dropC C H a = some o := fun e n => s.keep e n
  have nd : ∀ {a : Addr}, H a = none → dropC C H a = none := fun {a} n => by unfold dropC; split <;> simp [n]
  refine ⟨⟨fun a o e n nf => u.keep a o e (nd n) nf, u.slot, fun a o e n => ?_, u.there, fun a xs e => ex _ _ (u.tups a xs (dn e fun φ y => by cases y)), fun a o v e => ex _ _ (u.frzs a o v (dn e fun φ y => by cases y)), fun a ps e => ?_⟩, fun a o e => ?_, ex, gone, fun a q => ?_⟩
  · have q : a ∉ C := fun q => by
      obtain ⟨o, z⟩ := s.is a q
      rw [n] at z
      cases z
    rw [back_out q]
    exact u.free a o e (nd n)
  · obtain ⟨m, z⟩ := u.tbls a ps (dn e fun φ y => by cases y)
    exact ⟨m, ex _ _ z⟩
  · by_cases q : a ∈ C
    · obtain ⟨ob, z⟩ := s.is a q
      rw [back_in q, z] at e
      cases e
      exact stO_ok (stays a q ob z)
    · rw [back_out q] at e
      exact (k a o e).stay (fun _ _ _ z => z) (fun b z => ex _ _ z) (fun b xs z => ex _ _ z)
  · obtain ⟨o, e⟩ := s.is a q
    exact ⟨o, stays a q o e⟩
end
/-- what a lambda promises -/
def spLam (c : Ct) (l : LamSyn) (den : List D → W → Option (RV × W)) (cl : List (Str × Addr)) (vs : List V) (H : Hp) (Q : VK) : Prop := ∃ dr O0 w ds r w', (∀ a ∈ dr.as, a ∈ O0) ∧ (∀ a ∈ O0, ∃ o, H a = some o ∧ NT o) ∧ DrawAt dr w H ∧ LCells (vis O0 H) l cl vs ∧ RepAll c dr.da (vis O0 H) vs ds ∧ lfs ds = true ∧ den ds w = some (r, w') ∧
  ∀ v H', Kp dr H H' → DrawAt dr w' H' → RepN c dr.da O0 H H' r v → Q v H'
def spLamX (c : Ct) (l : LamSyn) (den : List D → W → Option (Xn × W)) (cl : List (Str × Addr)) (vs : List V) (H : Hp) (E : XK) : Prop := ∃ dr O0 w ds x w', (∀ a ∈ dr.as, a ∈ O0) ∧ (∀ a ∈ O0, ∃ o, H a = some o ∧ NT o) ∧ DrawAt dr w H ∧ LCells (vis O0 H) l cl vs ∧ RepAll c dr.da (vis O0 H) vs ds ∧ lfs ds = true ∧ den ds w = some (x, w') ∧
  ∀ H' cls d, Kp dr H H' → DrawAt dr w' H' → XO c dr.da O0 H' x cls d → E cls d H'
structure LamRun (P : Program) (w : World) (K : PySem.W.Frag) (mg : Str → Option Value) (base : Heap) (k : Nat) (l : LamSyn) (den : List D → W → Option (RV × W)) : Prop where
  run : ∀ (A : Around) (outer : List PySem.Env) (s : Shared) (H : Hp) (f c' : Addr) (cl : List (Str × Addr)) (pm ctv : Value) (vs : List V) (Q : VK), Room k A → Env0 P w K mg base A outer s H → H f = some (StO f (lamObj l cl pm c' ctv)) → H c' = some (LamX.CodeO c' l.q) → spLam ⟨K, mg⟩ l den cl vs H Q →
    codeAny (model P w) A (.call (.ref f) ⟨[], []⟩) (CR CX0 outer P w H s Q E0) s
structure LamRunX (P : Program) (w : World) (K : PySem.W.Frag) (mg : Str → Option Value) (base : Heap) (k : Nat) (l : LamSyn) (den : List D → W → Option (Xn × W)) : Prop where
  run : ∀ (A : Around) (outer : List PySem.Env) (s : Shared) (H : Hp) (f c' : Addr) (cl : List (Str × Addr)) (pm ctv : Value) (vs : List V) (Q : VK) (E : XK), Room k A → Env0 P w K mg base A outer s H → H f = some (StO f (lamObj l cl pm c' ctv)) → H c' = some (LamX.CodeO c' l.q) → spLamX ⟨K, mg⟩ l den cl vs H E →
    codeAny (model P w) A (.call (.ref f) ⟨[], []⟩) (CR (L2.CX P w) outer P w H s Q E) s
/-- a lambda takes no arguments -/
abbrev LamB (l : LamSyn) : Prop := ∀ (cl : List (Str × Addr)) (pm cv ctv : Value), bindArgs (PySem.W.kla_fn "<lambda>" l.q l.params l.body l.scope cl pm cv ctv) ⟨[], []⟩ = pure []
section
variable {P : Program} {w : World} {K : PySem.W.Frag} {mg : Str → Option Value} {base : Heap} {l : LamSyn} {k : Nat}
/-- the lambda is entered -/
theorem lam_enter {A : Around} {outer : List PySem.Env} {s : Shared} {H : Hp} {f c' : Addr} {cl : List (Str × Addr)} {pm ctv : Value} {vs : List V} {CX : CXT} {E : XK} {R : Result → Shared → Prop} (n : LamN l) (hbd : LamB l) (hr : Room (k + 1) A) (e0 : Env0 P w K mg base A outer s H) (hf : H f = some (StO f (lamObj l cl pm c' ctv))) (hc : H c' = some (LamX.CodeO c' l.q))
    (ck : LCells H l cl vs) (hl : vs.length = l.N.length)
    (go : ∀ s1, Inv (lamC P w K mg base l cl f c' A outer s (dropC (cellsOf cl) H) CX E) [] (L2.start l.N vs) (dropC (cellsOf cl) H) s1 → codeAny (model P w) A (.expr l.body (lamE l cl s.heap.objs.size f c')) R s1) :
    codeAny (model P w) A (.call (.ref f) ⟨[], []⟩) R s := by
  obtain ⟨⟨oc, vc, t, hoc, hdc, hvc⟩, _, _⟩ := e0.hok c' _ hc
  refine PySem.W.kla_callFunE hr.depth (stO_get e0.hok hf) rfl n.co n.gen rfl ⟨c', oc, vc, t, rfl, hoc, hdc, hvc⟩ ?_
  have noLim := e0.mod.nolimit.keeps fun b o q => (e0.bs b o q).1
  rw [hbd]
  refine wpAny_pure (wpAny_newFunctionEnv (fun y hy => (n.own y hy).2) (fun y hy => absurd hy (by simp)) (fun h₁ hns hsb => ⟨noLim.fresh _ hsb, ?_⟩) n.kind)
  refine go _ (lam_inv n (ck.still e0.hok) cells_look ck hl e0 hr.hd hns fun b o e => hsb.extBut b o (Nat.ne_of_lt (Heap.lt_size e)) (Heap.get?_push_of_some _ e))
theorem lam_sr {dr : Dr} {O0 : List Addr} {wd : W} {cl : List (Str × Addr)} {vs : List V} {ds : List D} {H : Hp} (st : Still (cellsOf cl) H) (h1 : ∀ a ∈ dr.as, a ∈ O0) (h2 : ∀ a ∈ O0, ∃ o, H a = some o ∧ NT o) (h3 : DrawAt dr wd H) (h4 : LCells (vis O0 H) l cl vs) (h5 : RepAll ⟨K, mg⟩ dr.da (vis O0 H) vs ds) (h6 : lfs ds = true) :
    SR ⟨K, mg⟩ ⟨dr, O0, dropC (cellsOf cl) H⟩ O0 (startE l.N.length ds) wd (L2.start l.N vs) (dropC (cellsOf cl) H) := by
  refine start_sr h1 (fun a ha => ?_) (h3.off st) ?_
  · rw [drop_out fun q => h4.dis a q ha]
    exact h2 a ha
  · rw [vis_drop]
    exact h5.off (st.vis h4.dis) h6
theorem lam_ok {g : M RV} (n : LamN l) (hbd : LamB l) (hb : ∀ (cl : List (Str × Addr)) (f c' : Addr) (A : Around) (outer : List PySem.Env) (s : Shared) (H : Hp) (E : XK), Room k (A.deeper (lamE l cl s.heap.objs.size f c')) → FE (lamC P w K mg base l cl f c' A outer s H CX0 E).nox l.body g) :
    LamRun P w K mg base (k + 1) l (denE l.N.length g) := by
  refine ⟨fun A outer s H f c' cl pm ctv vs Q hr e0 hf hc hs => ?_⟩
  obtain ⟨dr, O0, wd, ds, r, w', h1, h2, h3, h4, h5, h6, h8, k8⟩ := hs
  unfold denE at h8
  split at h8
  · rename_i h7
    have ck := h4.mono vis_ex
    have st := ck.still e0.hok
    refine lam_enter (CX := CX0) (E := E0) n hbd hr e0 hf hc ck (h5.length.trans h7) fun s1 J => ?_
    split at h8
    · rename_i r1 ρ' w2 eg
      obtain ⟨r', er, ez⟩ := Option.map_eq_some_iff.mp h8
      cases ez
      refine PySem.W.kla_codeExpr (wpAny_mono ((PE.nox (hb cl f c' A outer s (dropC (cellsOf cl) H) E0 (hr.deeper _) ⟨dr, O0, dropC (cellsOf cl) H⟩)).run [] _ _ _ (fun v H' => ∃ O', SR ⟨K, mg⟩ ⟨dr, O0, dropC (cellsOf cl) H⟩ O' ρ' w' (L2.start l.N vs) H' ∧ RepR ⟨K, mg⟩ ⟨dr, O0, dropC (cellsOf cl) H⟩ (vis O0 (dropC (cellsOf cl) H)) O' ρ' w' (L2.start l.N vs) H' r1 v) J
        ⟨O0, _, wd, r1, ρ', w', lam_sr st h1 h2 h3 h4 h5 h6, eg, fun v O' H' S' x R => ⟨O', S', R⟩⟩) (fun v s' hq => ?_) fun e s' hq => hq)
      obtain ⟨v', H', J', rv, O', S', R'⟩ := hq
      obtain ⟨u, ok, ex, gone⟩ := un_back st (fun a q z => by
        obtain ⟨o, y⟩ := st.is a q
        rw [e0.frf a z] at y
        cases y) e0.hok J'.base J'.hok
      refine ⟨v', backC (cellsOf cl) H H', J'.os, J'.bare, u, ok, rv, k8 v' _ (fun a o q nd => ?_) (S'.draw.mono ex) ?_⟩
      · by_cases z : a ∈ cellsOf cl
        · rw [back_in z]
          exact q
        · rw [back_out z]
          exact S'.base a o (by show dropC _ H a = _; rw [drop_out z]; exact q) nd
      · have rn := outR_ok S' R' er
        cases r with
        | sh d => exact Rep.mono (vis_mono ex) rn
        | ow i => exact rn.elim
        | fr d =>
          obtain ⟨a, o, e1, e2, e3, e4⟩ := rn
          have na : a ∉ cellsOf cl := fun z => by
            rw [gone a z] at e3
            cases e3
          have e2 : dropC (cellsOf cl) H a = none := e2
          rw [drop_out na] at e2
          exact ⟨a, o, e1, e2, ex _ _ e3, e4.mono (vis_mono ex)⟩
    · cases h8
  · cases h8
theorem lamX_ok {g : M Xn} (n : LamN l) (hbd : LamB l) (hb : ∀ (cl : List (Str × Addr)) (f c' : Addr) (A : Around) (outer : List PySem.Env) (s : Shared) (H : Hp) (E : XK), Room k (A.deeper (lamE l cl s.heap.objs.size f c')) → FXE (lamC P w K mg base l cl f c' A outer s H (L2.CX P w) E) l.body g) :
    LamRunX P w K mg base (k + 1) l (denEX l.N.length g) := by
  refine ⟨fun A outer s H f c' cl pm ctv vs Q E hr e0 hf hc hs => ?_⟩
  obtain ⟨dr, O0, wd, ds, x, w', h1, h2, h3, h4, h5, h6, h8, k8⟩ := hs
  unfold denEX at h8
  split at h8
  · rename_i h7
    have ck := h4.mono vis_ex
    have st := ck.still e0.hok
    obtain ⟨z, eg, ez⟩ := Option.map_eq_some_iff.mp h8
    obtain ⟨x1, ρ', w2⟩ := z
    cases ez
    obtain ⟨E', eE⟩ : ∃ E' : XK, E' = fun cls d H' => ∃ O', SR ⟨K, mg⟩ ⟨dr, O0, dropC (cellsOf cl) H⟩ O' ρ' w2 (L2.start l.N vs) H' ∧ XO ⟨K, mg⟩ dr.da O' H' x1 cls d := ⟨_, rfl⟩
    refine lam_enter (CX := L2.CX P w) (E := E') n hbd hr e0 hf hc ck (h5.length.trans h7) fun s1 J => ?_
    have conv : ∀ (e : Value) (s2 : Shared), L2.CX P w outer (dropC (cellsOf cl) H) s E' e s2 → L2.CX P w outer H s E e s2 := fun e s2 q => by
      obtain ⟨a, B, H', cls, d, e1, fl, hok, ub, na, os, ag, hE⟩ := q
      rw [eE] at hE
      obtain ⟨O', S', xo⟩ := hE
      obtain ⟨u, ok, ex, gone, inB⟩ := ub_back st (fun a q z => by
        obtain ⟨o, y⟩ := st.is a q
        rw [e0.frf a z] at y
        cases y) e0.hok ub hok
      have nC : a ∉ cellsOf cl := fun z => by
        obtain ⟨o, y⟩ := inB a z
        rw [fl.2.1] at y
        cases y
      refine ⟨a, B, backC (cellsOf cl) H H', cls, d, e1, fl, ok, u, by rw [back_out nC]; exact na, os, ag, k8 _ cls d (fun a o q nd => ?_) (S'.draw.mono ex) (xo.mono ((vis_sub S'.sub).trans (vis_mono ex)))⟩
      by_cases z : a ∈ cellsOf cl
      · rw [back_in z]
        exact q
      · rw [back_out z]
        exact S'.base a o (by show dropC _ H a = _; rw [drop_out z]; exact q) nd
    refine PySem.W.kla_codeExpr (wpAny_mono ((hb cl f c' A outer s (dropC (cellsOf cl) H) E' (hr.deeper _) (fun cls d _ H' => E' cls d H') ⟨takes_of rfl rfl rfl rfl, passes_of rfl⟩ ⟨dr, O0, dropC (cellsOf cl) H⟩).run [] _ _ _ (fun _ _ => False) J
        ⟨O0, _, wd, x1, ρ', w2, lam_sr st h1 h2 h3 h4 h5 h6, eg, fun O' H' cls d S' x' xo => by rw [eE]; exact ⟨O', S', xo⟩⟩) (fun v s' hq => ?_) fun e s' hq => ?_)
    · obtain ⟨_, _, _, _, z⟩ := hq
      exact z.elim
    · exact wpAny_mono hq (fun _ s2 z => conv e s2 z) fun e2 s2 z => conv e2 s2 z
  · cases h8
end
/-! ### x() -/
structure LamT (P : Program) (w : World) (K : PySem.W.Frag) (mg : Str → Option Value) (base : Heap) (k : Nat) (tab : Nat → List D → W → Option (RV × W)) : Prop where
  all : ∀ n l, Tabl.L n = some l → LamRun P w K mg base k l (tab n)
structure LamTX (P : Program) (w : World) (K : PySem.W.Frag) (mg : Str → Option Value) (base : Heap) (k : Nat) (tab : Nat → List D → W → Option (Xn × W)) : Prop where
  all : ∀ n l, Tabl.L n = some l → LamRunX P w K mg base k l (tab n)
theorem LamRun.mono {P : Program} {w : World} {K : PySem.W.Frag} {mg : Str → Option Value} {base : Heap} {k j : Nat} {l : LamSyn} {den : List D → W → Option (RV × W)} (h : LamRun P w K mg base k l den) (hk : k ≤ j) : LamRun P w K mg base j l den :=
  ⟨fun A outer s H f c' cl pm ctv vs Q hr => h.run A outer s H f c' cl pm ctv vs Q (hr.mono hk)⟩
theorem LamRunX.mono {P : Program} {w : World} {K : PySem.W.Frag} {mg : Str → Option Value} {base : Heap} {k j : Nat} {l : LamSyn} {den : List D → W → Option (Xn × W)} (h : LamRunX P w K mg base k l den) (hk : k ≤ j) : LamRunX P w K mg base j l den :=
  ⟨fun A outer s H f c' cl pm ctv vs Q E hr => h.run A outer s H f c' cl pm ctv vs Q E (hr.mono hk)⟩
def lamAt (i : Nat) (ρ : Env) : Option (Nat × List D) := match ρ[i]? with
  | some (some (.val (.lam n ds))) => if lfs ds = true then some (n, ds) else none
  | _ => none
theorem lamAt_some {i n : Nat} {ρ : Env} {ds : List D} (h : lamAt i ρ = some (n, ds)) : ρ[i]? = some (some (.val (.lam n ds))) ∧ lfs ds = true := by
  unfold lamAt at h
  split at h
  · rename_i n' ds' e
    split at h
    · rename_i hl
      cases h
      exact ⟨e, hl⟩
    · cases h
  · cases h
def actM (tab : Nat → List D → W → Option (RV × W)) (i : Nat) : M RV := fun ρ w => match lamAt i ρ with
  | some (n, ds) => runD (tab n) ds ρ w
  | none => none
def actX (tab : Nat → List D → W → Option (Xn × W)) (i : Nat) : M Xn := fun ρ w => match lamAt i ρ with
  | some (n, ds) => runX (tab n) ds ρ w
  | none => none
section
variable {X : Cx} {k j i : Nat} {a : Str} {p1 p2 : Pos}
theorem fe_act {tab : Nat → List D → W → Option (RV × W)} (T : LamT X.prog X.w X.K X.mg X.base k tab) (hr : Room j X.A) (hN : X.N[i]? = some a) (hv : Vis X.env.scope a) (hk : k ≤ j := by decide) (hd : (a == ("__debug__" : Str)) = false := by decide) (hcd : (a == ("__classdict__" : Str)) = false := by decide) :
    FE X (.Call (.Name a p1) [] [] p2) (actM tab i) := fun F => ⟨fun pins s σ H Q I q => by
  obtain ⟨O, ρ, w, r, ρ', w', S, e, kk⟩ := q
  unfold actM at e
  split at e
  · rename_i n ds el
    obtain ⟨eρ, hl⟩ := lamAt_some el
    obtain ⟨r', w2, hd', ez⟩ := runD_some e
    cases ez
    obtain ⟨v, hσ, rp⟩ := S.val i _ eρ
    cases rp with
    | @lam f c' _ l cl pm ctv vs _ hL hf hc ck rv =>
      refine wpAny_Call_Name_kw (thn ((pe_var (pos := p1) (i := i) hN hv hd hcd).run pins s σ H (fun v H1 => v = .ref f ∧ H1 = H) I ⟨.ref f, hσ, rfl, rfl⟩) fun u s1 ⟨v, H1, I1, r1, q1⟩ => ?_)
      obtain ⟨ev, eH⟩ := q1
      subst ev
      rw [eH] at I1
      have eu : u = Value.ref f := r1
      subst eu
      have hf' := vis_ex _ _ hf
      refine PySem.W.callWith_F0 ⟨_, _, _, _, stO_get I1.hok hf'⟩ ?_
      refine wpAny_call (codeAny_mono ((T.all n l hL).run X.A X.stack s1 H f c' cl pm ctv vs Q (hr.mono hk) I1.env0 hf' (vis_ex _ _ hc) ⟨F.dr, O, w, ds, r, w', S.drO, S.trk, S.draw, ck, rv, hl, hd', fun v H' kp hw n => kk v O H' (S.kept kp hw) (vis_kp S.drO kp) (n.outK S kp hw)⟩) fun res s' hq => ?_)
      match res, hq with
      | .ok (.ret u), hq => exact I1.after hq
      | .error z, hq => exact (show False from hq).elim
  · cases e⟩
theorem fxe_act {tab : Nat → List D → W → Option (Xn × W)} (T : LamTX X.prog X.w X.K X.mg X.base k tab) (hr : Room j X.A) (hN : X.N[i]? = some a) (hv : Vis X.env.scope a) (hk : k ≤ j := by decide) (hd : (a == ("__debug__" : Str)) = false := by decide) (hcd : (a == ("__classdict__" : Str)) = false := by decide) :
    FXE X (.Call (.Name a p1) [] [] p2) (actX tab i) := fun W xc F => ⟨fun pins s σ H Q I q => by
  obtain ⟨O, ρ, w, y, ρ', w', S, e, kk⟩ := q
  unfold actX at e
  split at e
  · rename_i n ds el
    obtain ⟨eρ, hl⟩ := lamAt_some el
    obtain ⟨hd', rfl⟩ := runX_some e
    obtain ⟨v, hσ, rp⟩ := S.val i _ eρ
    cases rp with
    | @lam f c' _ l cl pm ctv vs _ hL hf hc ck rv =>
      refine wpAny_Call_Name_kw (thn ((pe_var (pos := p1) (i := i) hN hv hd hcd).run pins s σ H (fun v H1 => v = .ref f ∧ H1 = H) I ⟨.ref f, hσ, rfl, rfl⟩) fun u s1 ⟨v, H1, I1, r1, q1⟩ => ?_)
      obtain ⟨ev, eH⟩ := q1
      subst ev
      rw [eH] at I1
      have eu : u = Value.ref f := r1
      subst eu
      have hf' := vis_ex _ _ hf
      refine PySem.W.callWith_F0 ⟨_, _, _, _, stO_get I1.hok hf'⟩ ?_
      refine wpAny_call (codeAny_mono ((T.all n l hL).run X.A X.stack s1 H f c' cl pm ctv vs Q (WE W σ) (hr.mono hk) I1.env0 hf' (vis_ex _ _ hc) ⟨F.dr, O, w, ds, y, w', S.drO, S.trk, S.draw, ck, rv, hl, hd', fun H' cls d kp hw xo => kk O H' cls d (S.kept kp hw) (vis_kp S.drO kp) xo⟩) fun res s' hq => ?_)
      match res, hq with
      | .ok (.ret u), hq => exact I1.after hq
      | .error z, hq => exact xc.tk z s' (XE.of_call I1 (fun _ _ _ y => y) hq)
  · cases e⟩
end
end FD

end sec_LM3
section sec_LM4
set_option maxRecDepth 100000
set_option maxHeartbeats 5000000
/-! LM4: g(lambda: e, ..): the lambda and the cells are tracked for the call alone. -/
namespace FD
open PySem L2
open PyProof.Rows (envOfC)
variable [Tabl]
theorem Obj.off {c : Ct} {da : Option Addr} {G : Hp} {C : List Addr} {o : HO} {d : D} (h : Still C G) (b : Obj c da G o d) (l : lf d = true) : Obj c da (dropC C G) o d := by
  rcases b with ⟨xs, ds, h1, rfl, r⟩ | ⟨kvs, ps, h1, rfl, r⟩ | ⟨kvs, ps, h1, rfl, r⟩ | ⟨C', dx, fs, cn, gs, h1, rfl, h3, r⟩
  · exact .inl ⟨xs, ds, h1, rfl, r.off h (by simpa [lf] using l)⟩
  · exact .inr (.inl ⟨kvs, ps, h1, rfl, r.off h (by simpa [lf] using l)⟩)
  · exact .inr (.inr (.inl ⟨kvs, ps, h1, rfl, r.off h (by simpa [lf] using l)⟩))
  · exact .inr (.inr (.inr ⟨C', dx, fs, cn, gs, h1, rfl, h3, r.off h (by simpa [lf] using l)⟩))
section
variable {c : Ct} {F : Fm} {O O' : List Addr} {ρ ρ' : Env} {w w' : W} {σ : L2.St} {H H' : Hp} {a : Addr} {φ : Heap → Prop}
theorem noX {q : Str} (S : SR c F O ρ w σ H) (e : H a = some (LamX.CodeO a q)) (h : a ∈ O) : False := by
  obtain ⟨o, h1, h2⟩ := S.trk a h
  rw [e] at h1
  cases h1
  exact h2 [] rfl
/-- the slots that a lambda captures -/
theorem cap_hold : ∀ {js : List Nat} {cs : List D} {ρ ρ' : Env} {O : List Addr} {w' : W}, SR c F O ρ w σ H → escAll (js.map RV.ow) ρ w = some (cs, ρ', w') → ∃ vs, HoldAll c F O σ H (js.map RV.ow) vs ∧ ∀ (m j : Nat), js[m]? = some j → ∃ v, vs[m]? = some v ∧ σ[j]? = some (some v)
  | [], cs, ρ, ρ', O, w', S, h => ⟨[], .nil, fun m j e => by simp at e⟩
  | j :: js, cs, ρ, ρ', O, w', S, h => by
    obtain ⟨d, ρ1, w1, h1, h2⟩ := bindM_some h
    obtain ⟨ds, ρ2, w2, h3, h4⟩ := bindM_some h2
    have hv : ∃ v, σ[j]? = some (some v) := by
      have h1 : (match ρ[j]? with
        | some (some (.own d)) => some (d, ρ.set j (some (.val d)), w)
        | some (some (.val d)) => some (d, ρ, w)
        | _ => none) = some (d, ρ1, w1) := h1
      split at h1
      · rename_i d' e
        obtain ⟨a, o, q, _⟩ := S.own j d' e
        exact ⟨_, q⟩
      · rename_i d' e
        obtain ⟨v, q, _⟩ := S.val j d' e
        exact ⟨_, q⟩
      · cases h1
    obtain ⟨v, hv⟩ := hv
    obtain ⟨ew, O1, S1, k1, r1⟩ := escR_ok (v := v) S (show Hold c F O σ H (.ow j) v from hv) h1
    rw [ew] at h3
    obtain ⟨vs, hh, hg⟩ := cap_hold S1 h3
    have up : ∀ {js : List Nat} {vs : List V}, HoldAll c F O1 σ H (js.map RV.ow) vs → HoldAll c F O σ H (js.map RV.ow) vs := by
      intro js
      induction js with
      | nil => intro vs q; cases q; exact .nil
      | cons x r ih => intro vs q; cases q with | cons a b => exact .cons a (ih b)
    refine ⟨v :: vs, .cons hv (up hh), fun m i e => ?_⟩
    cases m with
    | zero =>
      simp at e
      subst e
      exact ⟨v, rfl, hv⟩
    | succ m => exact hg m i (by simpa using e)
end
/-- a def that is called with a lambda -/
structure CalR (X : Cx) (x : Str) (n : Nat) (den : List D → W → Option (RV × W)) : Prop where
  ex : ∃ g, X.mg x = some (.ref g) ∧ PySem.W.keepIn X.K (.ref g) = true ∧ ∀ (s : Shared) (H : Hp) (us : List Value) (vs : List V) (Q : VK), X.K.In s.heap → Env0 X.prog X.w X.K X.mg X.base X.A X.stack s H → Vals vs us → spD (ct X) n den vs H Q E0 →
    codeAny (model X.prog X.w) X.A (.call (.ref g) ⟨us, []⟩) (CR CX0 X.stack X.prog X.w H s Q E0) s
section
variable {X : Cx} {k j n : Nat} {x : Str} {den : List D → W → Option (RV × W)}
theorem CalG.r (cl : CalG X.prog X.w X.K X.mg X.base k x n den) (hr : Room j X.A) (hG : X.A.guards = some []) (hk : k ≤ j := by decide) : CalR X x n den := by
  obtain ⟨f, fd, ps, FO, hm, kp, b⟩ := cl.ex
  refine ⟨f, hm, kp, fun s H us vs Q kin e0 r h => ?_⟩
  have b1 := b s us kin (by rw [List.append_nil, ← r.length]; exact FO.len vs H Q E0 h)
  rw [List.append_nil] at b1
  exact FO.runs X.A (hr.mono hk) hG X.stack s H ⟨us, []⟩ us vs Q E0 e0 b1 r h
theorem CalD.r (cl : CalD X.prog X.w X.K X.mg X.base k x n [] den) (hr : Room j X.A) (hk : k ≤ j := by decide) : CalR X x n den := by
  obtain ⟨f, fd, ps, ds, dvs, FO, hm, kp, b, d, rd⟩ := cl.ex
  cases rd none fun _ => none
  cases d
  refine ⟨f, hm, kp, fun s H us vs Q kin e0 r h => ?_⟩
  have b1 := b s us kin (by rw [List.append_nil, ← r.length]; exact FO.len vs H Q E0 h)
  rw [List.append_nil] at b1
  exact FO.run X.A X.stack s H ⟨us, []⟩ us vs Q E0 (hr.mono hk) e0 b1 r h
end
def offL : RV → M RV
  | .sh d => if lf d = true then pureM (.sh d) else failM
  | .fr d => if lf d = true then pureM (.fr d) else failM
  | .ow _ => failM
def lamCall (i : Nat) (js : List Nat) (den : List D → W → Option (RV × W)) (fa : M (List RV)) : M RV := bindM fa fun rs => bindM (escAll rs) fun ds => bindM (escAll (js.map RV.ow)) fun cs =>
  if lfs cs = true then bindM (runD den (.lam i cs :: ds)) offL else failM
theorem offL_some {r r' : RV} {ρ ρ' : Env} {w w' : W} (h : offL r ρ w = some (r', ρ', w')) : r' = r ∧ ρ' = ρ ∧ w' = w ∧ ((∃ d, r = .sh d ∧ lf d = true) ∨ ∃ d, r = .fr d ∧ lf d = true) := by
  cases r with
  | sh d =>
    unfold offL at h
    dsimp only at h
    split at h
    · rename_i l
      cases h
      exact ⟨rfl, rfl, rfl, .inl ⟨d, rfl, l⟩⟩
    · cases h
  | fr d =>
    unfold offL at h
    dsimp only at h
    split at h
    · rename_i l
      cases h
      exact ⟨rfl, rfl, rfl, .inr ⟨d, rfl, l⟩⟩
    · cases h
  | ow i => cases h
/-- the heap with the lambda and its cells -/
def withC (C : List Addr) (h : Heap) (H : Hp) : Hp := fun b => if b ∈ C then (h.get? b).map (StO b) else H b
theorem with_in {C : List Addr} {h : Heap} {H : Hp} {b : Addr} {o : PySem.Obj} (q : b ∈ C) (e : h.get? b = some o) : withC C h H b = some (StO b o) := by
  unfold withC
  rw [if_pos q, e]
  rfl
theorem with_out {C : List Addr} {h : Heap} {H : Hp} {b : Addr} (q : b ∉ C) : withC C h H b = H b := if_neg q
/-- what a lambda at its making needs -/
structure LamAt (X : Cx) (i : Nat) (l : LamSyn) (js : List Nat) (params : Arguments) (body : Expr) (scope : Scope) : Prop where
  tab : Tabl.L i = some l
  q : X.env.qual ++ "<lambda>" = l.q
  pa : l.params = params
  bo : l.body = body
  sc : l.scope = scope
  nm : js.map (fun j => X.N[j]?) = l.N.map some
  fr : ∀ y ∈ l.N, scope.names.lookup y = some .free
  ls : LamX.LamS X.env.scope scope
  df : defaultsOf params X.env = ([], [])
  fn : ∀ y, X.fn y = true
section
variable {X : Cx} {i n : Nat} {x : Str} {den : List D → W → Option (RV × W)} {fa : M (List RV)} {l : LamSyn} {js : List Nat} {params : Arguments} {body : Expr} {scope : Scope} {es : List Expr} {p lpos pos : Pos} {c P : Addr}
theorem fe_lamcall (cr : CalR X x n den) (hg : Gl X x) (L : LamAt X i l js params body scope) (TB : LamX.TabB X.base X.mg c P) (hcode : X.env.code = .ref c) (hmT : (P, X.env.qual ++ "<lambda>") ∈ Tabl.T) (hu : ∀ p ∈ Tabl.T, p.1 = P → p.2 = X.env.qual ++ "<lambda>")
    (ha : FA X es fa) (hn : es.length + 1 = n := by rfl) (hdb : NotDebug x := by decide) (he : Plain1 X (.Lambda params body scope lpos) es := by rfl) (hpl : PlainR X es pos := by rfl) :
    FE X (.Call (.Name x p) (.Lambda params body scope lpos :: es) [] pos) (lamCall i js den fa) := fun F => ⟨fun pins s σ H Q I q => by
  obtain ⟨O, ρ, w, r, ρ', w', S, e, kk⟩ := q
  obtain ⟨g, hm, kp, run⟩ := cr.ex
  refine wpAny_Call_Name_kw (ld_glob I hg hm (PySem.W.callWith_K (h₀ := X.base) I.ok.mod.kin kp ?_ he hpl) hdb)
  rw [he]
  show wpAny _ _ (spliced ((false, eval (.Lambda params body scope lpos) X.env) :: backTo pos (starEach es X.env))) _ _ s
  refine Calls.spliced_cons (SK.lam_make3 I TB hcode hmT hu S.draw.2 L.df (L.ls.has I.ok) fun f c' pm ctv H1 s1 I1 kE T1 hf hfn hfb hco => ?_)
  -- the state behind the making
  have hP : P ∈ F.dr.as := Dr.tab hmT
  obtain ⟨tps, tP, _⟩ := S.draw.2 _ hmT
  have nP : ∀ b o, H b = some o → (∀ ps, o ≠ .tbl ps) → b ≠ P := fun b o q n z => by
    rw [z, tP] at q
    exact n tps (Option.some.inj q).symm
  have kp1 : Kp F.dr H H1 := fun b o q n => kE b o q fun z => n (z ▸ hP)
  have dw : DrawAt F.dr w H1 := ⟨fun t q => let ⟨q1, q2, q3, q4⟩ := S.draw.1 t q; ⟨kE _ _ q1 (nP _ _ q1 (fun _ z => nomatch z)), kE _ _ q2 (nP _ _ q2 (fun _ z => nomatch z)), kE _ _ q3 (nP _ _ q3 (fun _ z => nomatch z)), q4⟩, T1⟩
  have S1 := S.kept kp1 dw
  have x1 : Ex (vis O H) (vis O H1) := vis_kp S.drO kp1
  have szf : X.s_0.heap.objs.size ≤ f := Nat.le_trans I.sz hfb
  have I1p : Inv X ((f, SK.lamO X params body scope pm c' ctv) :: pins) σ H1 s1 := I1.pins_of fun pq mem => by
    rcases List.mem_cons.mp mem with rfl | mem
    · exact ⟨hf, hfn, fun z => by
        have z : f = X.env.locals := z
        have y := I.lt
        rw [← z] at y
        exact absurd y (Nat.not_lt.mpr hfb), I.nofs hfb, fun v z => by cases z⟩
    · exact I1.pin pq (List.mem_append_right _ mem)
  -- the other arguments
  have ta : ∃ F' : Fm, tA (ct X) F' fa σ H1 fun vs H2 => H2 c' = some (LamX.CodeO c' (X.env.qual ++ "<lambda>")) ∧ ∃ O4 ρ4 w2 ds cs vcs r1 w5, SR (ct X) F O4 ρ4 w2 σ H2 ∧ Ex (vis O H) (vis O4 H2) ∧ RepAll (ct X) F.dr.da (vis O4 H2) vs ds ∧ RepAll (ct X) F.dr.da (vis O4 H2) vcs cs ∧ (∀ (m j : Nat), js[m]? = some j → ∃ v, vcs[m]? = some v ∧ σ[j]? = some (some v)) ∧ vcs.length = js.length ∧ lfs cs = true ∧ ds.length = es.length ∧ den (.lam i cs :: ds) w2 = some (r1, w5) ∧
      ((∃ d, r1 = .sh d ∧ lf d = true) ∨ ∃ d, r1 = .fr d ∧ lf d = true) ∧ r = r1 ∧ ρ' = ρ4 ∧ w' = w5 := by
    have main : ∀ (F' : Fm) (vs : List V) (O2 : List Addr) (ρ2 : Env) (w2 : W) (H2 : Hp) (rs : List RV), SR (ct X) F O2 ρ2 w2 σ H2 → Ex (vis O H1) (vis O2 H2) → HoldAll (ct X) F O2 σ H2 rs vs → fa ρ w = some (rs, ρ2, w2) → (bindM (escAll rs) fun ds => bindM (escAll (js.map RV.ow)) fun cs =>
        if lfs cs = true then bindM (runD den (.lam i cs :: ds)) offL else failM) ρ2 w2 = some (r, ρ', w') → ∃ O4 ρ4 w2 ds cs vcs r1 w5, SR (ct X) F O4 ρ4 w2 σ H2 ∧ Ex (vis O H) (vis O4 H2) ∧ RepAll (ct X) F.dr.da (vis O4 H2) vs ds ∧ RepAll (ct X) F.dr.da (vis O4 H2) vcs cs ∧ (∀ (m j : Nat), js[m]? = some j → ∃ v, vcs[m]? = some v ∧ σ[j]? = some (some v)) ∧ vcs.length = js.length ∧ lfs cs = true ∧ ds.length = es.length ∧ den (.lam i cs :: ds) w2 = some (r1, w5) ∧
      ((∃ d, r1 = .sh d ∧ lf d = true) ∨ ∃ d, r1 = .fr d ∧ lf d = true) ∧ r = r1 ∧ ρ' = ρ4 ∧ w' = w5 := fun F' vs O2 ρ2 w2 H2 rs S2 x2 R2 f2 h2 => by
      obtain ⟨ds, ρ3, w3, h3, h4⟩ := bindM_some h2
      obtain ⟨rfl, O3, S3, k3, r3⟩ := escAll_ok S2 R2 h3
      obtain ⟨cs, ρ4, w4, h5, h6⟩ := bindM_some h4
      obtain ⟨vcs, hh, hgt⟩ := cap_hold S3 h5
      obtain ⟨rfl, O4, S4, k4, r4⟩ := escAll_ok S3 hh h5
      split at h6
      · rename_i hl
        obtain ⟨r1, ρ5, w5, h7, h8⟩ := bindM_some h6
        obtain ⟨r2, w6, h9, ez⟩ := runD_some h7
        cases ez
        obtain ⟨e1, e2, e3, e4⟩ := offL_some h8
        refine ⟨O4, ρ4, _, ds, cs, vcs, r1, w5, S4, ((x1.trans x2).trans k3).trans k4, r3.mono k4, r4, hgt, ?_, hl, ?_, h9, e4, e1, e2, e3⟩
        · have := hh.length
          simpa using this.symm
        · rw [r3.len2, ← R2.length, ha.len _ _ _ _ _ f2]
      · cases h6
    refine ⟨F, tA_then S1 e fun vs O2 ρ2 w2 H2 rs S2 x2 R2 f2 h2 => ⟨?_, main F vs O2 ρ2 w2 H2 rs S2 x2 R2 f2 h2⟩⟩
    exact vis_ex _ _ (x2 _ _ (by rw [vis_out fun z => noX S1 hco z]; exact hco))
  obtain ⟨F', ta⟩ := ta
  refine thn ((ha.run F').run pos _ s1 σ H1 _ I1p ta) fun us s2 ⟨vs, H2, I2, r2, hc2, O4, ρ4, w2, ds, cs, vcs, r1, w5, S4, x4, rd, rc, cap, vl, lcs, dl, hden, hoff, er, eρ, ew⟩ => ⟨I2.kIn, ?_⟩
  subst er eρ ew
  -- the lambda and its cells
  obtain ⟨cl, ecl⟩ : ∃ cl, cl = cloFrom X.env.cells scope.names [] := ⟨_, rfl⟩
  have free := L.ls.has I.ok
  have cm : ∀ {y b}, cl.lookup y = some b → X.env.cells.lookup y = some b := fun {y b} q => by
    rw [ecl] at q
    rcases cloFrom_mem (PySem.mem_of_lookup q) with z | ⟨z1, z2⟩
    · cases z
    · obtain ⟨b1, hb⟩ := free _ z1 rfl
      have hb : X.env.cells.lookup y = some b1 := hb
      rw [hb] at z2
      have z2 : b = b1 := z2
      rw [z2]
      exact hb
  have look : ∀ {y}, scope.names.lookup y = some .free → ∃ b, cl.lookup y = some b := fun {y} q => by
    rw [ecl]
    exact mem_lookup (cloFrom_has (cells := X.env.cells) (acc := []) (PySem.mem_of_lookup q))
  obtain ⟨C, eC⟩ : ∃ C, C = f :: cellsOf cl := ⟨_, rfl⟩
  have pinf := I2.pin (f, SK.lamO X params body scope pm c' ctv) (List.mem_append_right _ List.mem_cons_self)
  have inC : ∀ b ∈ C, (b = f ∨ ∃ y, X.env.cells.lookup y = some b) := fun b q => by
    rw [eC] at q
    rcases List.mem_cons.mp q with z | z
    · exact .inl z
    · obtain ⟨y, z⟩ := cells_of z
      exact .inr ⟨y, cm z⟩
  have cAb : ∀ b ∈ C, X.s_0.heap.objs.size ≤ b := fun b q => by
    rcases inC b q with z | ⟨y, z⟩
    · rw [z]
      exact szf
    · exact I.ok.cab y b (L.fn y) z
  have cNo : ∀ b ∈ C, H2 b = none := fun b q => by
    rcases inC b q with z | ⟨y, z⟩
    · rw [z]
      exact pinf.2.1
    · exact I2.freeC y b z
  have cGet : ∀ b ∈ C, ∃ o, s2.heap.get? b = some o ∧ ∀ vs, o.data ≠ .fields vs := fun b q => by
    rcases inC b q with z | ⟨y, z⟩
    · rw [z]
      exact ⟨_, pinf.1, fun vs z => by cases z⟩
    · obtain ⟨v, o, h1, h2⟩ := I2.cell y b z
      exact ⟨o, h1, fun vs z => by rw [h2] at z; cases z⟩
  have cFs : ∀ b ∈ C, b ∉ frs X.stack := fun b q z => by
    rcases List.mem_cons.mp (I2.stkSub b z) with y | y
    · rcases inC b q with z | ⟨y', z⟩
      · exact pinf.2.2.1 (z ▸ y)
      · exact I2.cne y' b z y
    · obtain ⟨_, o, h1, _⟩ := I2.ok.funs.mem y
      exact absurd (Heap.lt_size h1) (Nat.not_lt.mpr (cAb b q))
  obtain ⟨H3, e3⟩ : ∃ H3, H3 = withC C s2.heap H2 := ⟨_, rfl⟩
  have at3 : ∀ b ∈ C, ∀ o, s2.heap.get? b = some o → H3 b = some (StO b o) := fun b q o z => by rw [e3]; exact with_in q z
  have out3 : ∀ b, b ∉ C → H3 b = H2 b := fun b q => by rw [e3]; exact with_out q
  have up3 : Ex H2 H3 := fun b u z => by
    rw [out3 b fun q => ?_]
    · exact z
    · rw [cNo b q] at z
      cases z
  have bes : Besides H2 H3 s2.heap (frs X.stack) C := ⟨fun b q => ⟨cNo b q, cFs b q⟩, fun b q => let ⟨o, z, _⟩ := cGet b q; ⟨o, z, at3 b q o z⟩, out3⟩
  have hok3 : HOk X.prog X.w H3 s2.heap := fun b u z => by
    by_cases q : b ∈ C
    · obtain ⟨o, h1, _⟩ := cGet b q
      rw [at3 b q o h1] at z
      cases z
      exact stO_ok h1
    · rw [out3 b q] at z
      exact (I2.hok b u z).stay (fun _ _ _ y => y) (fun d y => up3 _ _ y) (fun d xs y => up3 _ _ y)
  have env3 : Env0 X.prog X.w X.K X.mg X.base X.A X.stack s2 H3 := by
    have e0 := I2.env0
    refine ⟨e0.frames, e0.mod, fun b o z => ⟨(e0.bs b o z).1, ?_⟩, e0.bsz, e0.funs, fun b z => ?_, hok3, e0.bare⟩
    · rw [out3 b fun q => ?_]
      · exact (e0.bs b o z).2
      · exact absurd (Heap.lt_size z) (Nat.not_lt.mpr (Nat.le_trans I.ok.bsz (cAb b q)))
    · rw [out3 b fun q => cFs b q z]
      exact e0.frf b z
  have S5 := S4.grow up3
  have dj : ∀ b ∈ C, b ∉ O4 := fun b q z => by
    obtain ⟨o, h1, _⟩ := S4.trk b z
    rw [cNo b q] at h1
    cases h1
  have ndr : ∀ b ∈ C, b ∉ F.dr.as := fun b q z => dj b q (S4.drO b z)
  have inCl : ∀ {y b}, cl.lookup y = some b → b ∈ C := fun {y b} q => by
    rw [eC]
    exact List.mem_cons_of_mem _ (cells_look q)
  have visC : ∀ b ∈ C, ∀ o, s2.heap.get? b = some o → vis O4 H3 b = some (StO b o) := fun b q o z => by
    rw [vis_out (dj b q)]
    exact at3 b q o z
  have ck : LCells (vis O4 H3) l cl vcs := by
    refine ⟨fun y z b h1 h2 => I.ok.inj y z b (cm h1) (cm h2), fun y b h1 => ?_, fun y h1 => look (by rw [← L.sc]; exact h1), fun m y v h1 h2 => ?_⟩
    · obtain ⟨v, o, h2, h3⟩ := I2.cell y b (cm h1)
      exact ⟨o, v, visC b (inCl h1) o h2, h3⟩
    · have hm : m < js.length := by
        rw [← vl]
        exact (List.getElem?_eq_some_iff.mp h2).1
      have hj : js[m]? = some js[m] := List.getElem?_eq_getElem hm
      obtain ⟨v', h3, h4⟩ := cap m _ hj
      rw [h2] at h3
      cases h3
      have hN : X.N[js[m]]? = some y := by
        have z := congrArg (fun t => t[m]?) L.nm
        simp only [List.getElem?_map, hj, h1, Option.map_some, Option.some.injEq] at z
        exact z
      have hfr := L.fr y (List.mem_of_getElem? h1)
      have vy := L.ls.free _ (PySem.mem_of_lookup hfr) rfl
      have vis_y : Vis X.env.scope y := vy.elim (fun k => .inr (.inl k)) (fun k => .inr (.inr k))
      obtain ⟨mm, _, hl⟩ := I2.loc
      obtain ⟨u, ru, lk⟩ := hl _ y v hN h4 vis_y
      obtain ⟨b, hb⟩ := look hfr
      rcases lk with ⟨k', _⟩ | ⟨_, b', h5, o, h6, h7⟩
      · have own : X.env.scope.names.lookup y = some NameKind.local := k'
        rcases vy with k2 | k2 <;> rw [show X.env.scope.names.lookup y = _ from k2] at own <;> cases own
      · rw [cm hb] at h5
        cases h5
        exact ⟨b, o, u, hb, visC b (inCl hb) o h6, h7, ru⟩
  have fC : f ∈ C := by rw [eC]; exact List.mem_cons_self
  have hfL : SK.lamO X params body scope pm c' ctv = lamObj l cl pm c' ctv := by
    rw [← L.pa, ← L.bo, ecl]
    show PySem.W.kla_obj "<lambda>" (X.env.qual ++ "<lambda>") _ _ scope _ pm c' ctv = PySem.W.kla_obj "<lambda>" l.q _ _ l.scope _ pm c' ctv
    rw [L.q, L.sc]
  have hc3 : vis O4 H3 c' = some (LamX.CodeO c' l.q) := by
    rw [vis_out fun z => noX S4 hc2 z, ← L.q]
    exact up3 _ _ hc2
  have rl : Rep (ct X) F.dr.da (vis O4 H3) (.ref f) (.lam i cs) := .lam L.tab (visC f fC _ (by rw [← hfL]; exact pinf.1)) hc3 ck (rc.mono (vis_mono up3))
  refine wpAny_call (codeAny_mono (run s2 H3 (.ref f :: us) (.ref f :: vs) (fun v H' => Kp F.dr H3 H' ∧ DrawAt F.dr w' H' ∧ RepN (ct X) F.dr.da O4 H3 H' r v) I2.kIn env3 (.cons rfl r2)
    ⟨F.dr, O4, w2, .lam i cs :: ds, r, w', S5.drO, S5.trk, S5.draw, .cons rl (rd.mono (vis_mono up3)), by rw [List.length_cons, dl]; exact hn, hden, fun v H' a b c => ⟨a, b, c⟩⟩) fun res s' hq => ?_)
  match res, hq with
  | .error z, hq => exact (show False from hq).elim
  | .ok (.ret u), hq =>
    obtain ⟨v, H', os, bare, un, hok, rv, kp', hw', rn⟩ := hq
    have stay : ∀ a ∈ C, ∀ o, H3 a = some (StO a o) → H' a = some (StO a o) := fun a q o z => kp' a _ z (ndr a q)
    obtain ⟨un2, hok2⟩ := un_drop bes un hok stay
    have st : Still C H' := still_of hok fun a q => by
      obtain ⟨o, h1, h2⟩ := cGet a q
      exact ⟨o, stay a q o (at3 a q o h1), h2⟩
    have kp2 : Kp F.dr H2 (dropC C H') := fun a o z nd => by
      have q : a ∉ C := fun q => by
        rw [cNo a q] at z
        cases z
      rw [drop_out q]
      exact kp' a o (up3 _ _ z) nd
    have hw2 : DrawAt F.dr w' (dropC C H') := hw'.off st
    have rn2 : RepN (ct X) F.dr.da O4 H2 (dropC C H') r v := by
      rcases hoff with ⟨d, rfl, hl⟩ | ⟨d, rfl, hl⟩
      · show Rep _ _ (vis O4 (dropC C H')) v d
        rw [vis_drop]
        exact Rep.off (st.vis dj) rn hl
      · obtain ⟨a, o, h1, h2, h3, h4⟩ := rn
        have na : a ∉ C := fun q => by
          obtain ⟨o, z, _⟩ := cGet a q
          rw [at3 a q o z] at h2
          cases h2
        rw [out3 a na] at h2
        refine ⟨a, o, h1, h2, by rw [drop_out na]; exact h3, ?_⟩
        rw [vis_drop]
        exact h4.off (st.vis fun b q z => (List.mem_cons.mp z).elim (fun y => na (y ▸ q)) (dj b q)) hl
    obtain ⟨v2, H'', J, rv2, q2⟩ := I2.after (Q := Q) ⟨v, dropC C H', os, bare, un2, hok2, rv, kk v O4 _ (S4.kept kp2 hw2) (x4.trans (vis_kp S4.drO kp2)) ((rn2.outK S4 kp2 hw2).less x4)⟩
    exact ⟨v2, H'', J.pins_of fun p hp => J.pin p (List.mem_append_right _ (List.mem_cons_of_mem _ hp)), rv2, q2⟩⟩
end
end FD

end sec_LM4
section sec_LM5
/-! LM5: where a lambda stands in the text. -/
namespace FD
open PySem L2
def sB : Stmt → List Stmt
  | .For _ _ b _ _ => b
  | .While _ b _ _ => b
  | .If _ b _ _ => b
  | _ => []
def sE : Stmt → Expr
  | .If t _ _ _ => t
  | .Return (some e) _ => e
  | .Assign _ e _ => e
  | .Expr e _ => e
  | _ => .Name "" ⟨0, 0, 0, 0⟩
def eK : Expr → List Expr
  | .UnaryOp _ e _ => [e]
  | .BoolOp _ es _ => es
  | .BinOp a _ b _ => [a, b]
  | .Compare a _ es _ => a :: es
  | .Call f es _ _ => f :: es
  | .Subscript a b _ => [a, b]
  | .Tuple es _ _ => es
  | .List es _ => es
  | .Attribute a _ _ => [a]
  | _ => []
def nS (l : List Stmt) (i : Nat) : Stmt := l.getD i (.Pass ⟨0, 0, 0, 0⟩)
def nE (e : Expr) (i : Nat) : Expr := (eK e).getD i (.Name "" ⟨0, 0, 0, 0⟩)
def laA : Expr → Arguments
  | .Lambda a _ _ _ => a
  | _ => { posonlyargs := [], args := [], vararg := none, kwonlyargs := [], kw_defaults := [], kwarg := none, defaults := [] }
def laB : Expr → Expr
  | .Lambda _ b _ _ => b
  | _ => .Name "" ⟨0, 0, 0, 0⟩
def laS : Expr → Scope
  | .Lambda _ _ s _ => s
  | _ => { kind := .function, names := [], isGenerator := false, isCoroutine := false }
end FD

end sec_LM5
section sec_Dens
set_option maxRecDepth 100000
set_option maxHeartbeats 4000000
/-! printed by gen.py: the denotations -/
namespace KL
open PySem L2 FD
noncomputable section
variable [Tabl]
def bt_NoTable : String → Bool := fun T => false
def ic_NoTable : List (Str × Bool) := []
def bt_BadNumber : String → Bool := fun T => false
def ic_BadNumber : List (Str × Bool) := []
def bt_list_tuple : String → Bool := fun T => T == "list" || T == "tuple"
def ic_list_tuple : List (Str × Bool) := []
def bt_tuple : String → Bool := fun T => T == "tuple"
def ic_tuple : List (Str × Bool) := []
def bt_bool : String → Bool := fun T => T == "bool"
def ic_bool : List (Str × Bool) := []
def bt_int : String → Bool := fun T => T == "int" || T == "bool"
def ic_int : List (Str × Bool) := []
def xs_MeanError : List Str := ["BadNumber"]
def xi_BadNumber : List (Str × Bool) := [("BadNumber", true)]
def xi_NoTable : List (Str × Bool) := [("BadNumber", false)]
def xf_number : List Str := ["BadNumber"]
def d1_law_begun : M Fl := (setM' 1 (lcM (bindM (varM 0) iterM) [2] (gNameM 2) (boolM (op2M geD (bM absD (consA (varM 2) (pureM []))) (op2M (intD powI) (pureM (.sh (.int 10))) (pureM (.sh (.int 18)))))) (op2M subD (bM absD (consA (varM 2) (pureM []))) (op2M (intD powI) (pureM (.sh (.int 10))) (pureM (.sh (.int 18)))))))
def d2_law_begun : M RV := (lcM (bindM (varM 0) iterM) [2] (gNameM 2) (pureM true) (op2M (intD modI) (bM intFD (consA (bM absD (consA (varM 2) (pureM []))) (pureM []))) (pureM (.sh (.int 2147483629)))))
def beg : List Int → Option (List Int × List Int) := begD 3 d1_law_begun d2_law_begun 1
def d_divisor_of : M Fl := (seqM (parSt [0, 1] (pend1 (bM absD (consA (varM 0) (pureM []))) (pend1 (bM absD (consA (varM 1) (pureM []))) (pureM []))))
  (seqM (whileM (boolM (op2M gtD (varM 1) (pureM (.sh (.int 0))))) (parSt [0, 1] (pend1 (varM 1) (pend1 (op2M (intD modI) (varM 0) (varM 1)) (pureM [])))) 1000000)
  (retM (varM 0))))
abbrev D_divisor_of : List D → W → Option (RV × W) := denB 2 d_divisor_of
def d_divided : M Fl := (seqM (setM' 2 (op2M mulD (callM D_divisor_of [] (consA (varM 0) (consA (varM 1) (pureM [])))) (ifM (boolM (op2M gtD (varM 1) (pureM (.sh (.int 0))))) (pureM (.sh (.int 1))) (op1M negD (pureM (.sh (.int 1)))))))
  (retM (tupM (consA (op2M (intD fdivI) (varM 0) (varM 2)) (consA (op2M (intD fdivI) (varM 1) (varM 2)) (pureM []))))))
abbrev D_divided : List D → W → Option (RV × W) := denB 3 d_divided
def d_plus : M Fl := (retM (callM D_divided [] (consA (op2M addD (op2M mulD (op2M ixD (varM 0) (pureM (.sh (.int 0)))) (op2M ixD (varM 1) (pureM (.sh (.int 1))))) (op2M mulD (op2M ixD (varM 1) (pureM (.sh (.int 0)))) (op2M ixD (varM 0) (pureM (.sh (.int 1)))))) (consA (op2M mulD (op2M ixD (varM 0) (pureM (.sh (.int 1)))) (op2M ixD (varM 1) (pureM (.sh (.int 1))))) (pureM [])))))
abbrev D_plus : List D → W → Option (RV × W) := denB 2 d_plus
def d_is_number : M Fl := (retM (andM (isiM bt_int ic_int (varM 0)) (notM (isiM bt_bool ic_bool (varM 0)))))
abbrev D_is_number : List D → W → Option (RV × W) := denB 1 d_is_number
def d_is_fraction : M Fl := (seqM (ifM (orT (notT (boolM (isiM bt_tuple ic_tuple (varM 0)))) (orT (boolM (op2M neD (bM lenD (consA (varM 0) (pureM []))) (pureM (.sh (.int 2))))) (orT (notT (boolM (callM D_is_number [] (consA (op2M ixD (varM 0) (pureM (.sh (.int 0)))) (pureM []))))) (notT (boolM (callM D_is_number [] (consA (op2M ixD (varM 0) (pureM (.sh (.int 1)))) (pureM [])))))))) (retM (pureM (.sh (.bl false)))) (pureM .nx))
  (retM (andM (op2M geD (op2M ixD (varM 0) (pureM (.sh (.int 1)))) (pureM (.sh (.int 1)))) (op2M eqD (callM D_divisor_of [] (consA (op2M ixD (varM 0) (pureM (.sh (.int 0)))) (consA (op2M ixD (varM 0) (pureM (.sh (.int 1)))) (pureM [])))) (pureM (.sh (.int 1)))))))
abbrev D_is_fraction : List D → W → Option (RV × W) := denB 1 d_is_fraction
def d_need_fractions : M Fl := (seqM (ifM (notT (boolM (isiM bt_list_tuple ic_list_tuple (varM 0)))) failM (pureM .nx))
  (forM (bindM (varM 0) iterM) (gNameM 1)
   (ifM (notT (boolM (callM D_is_fraction [] (consA (varM 1) (pureM []))))) failM (pureM .nx))))
abbrev D_need_fractions : List D → W → Option (RV × W) := denB 2 d_need_fractions
def x_need_fractions : M Xn := (alt (ifX (notT (boolM (isiM bt_list_tuple ic_list_tuple (varM 0)))) (raiseX "BadNumber" "number" (consA (varM 0) (pureM []))) failM) (seqX (ifM (notT (boolM (isiM bt_list_tuple ic_list_tuple (varM 0)))) failM (pureM .nx))
  (forX (bindM (varM 0) iterM) (gNameM 1)
   (ifM (notT (boolM (callM D_is_fraction [] (consA (varM 1) (pureM []))))) failM (pureM .nx))
   (ifX (notT (boolM (callM D_is_fraction [] (consA (varM 1) (pureM []))))) (raiseX "BadNumber" "number" (consA (varM 1) (pureM []))) failM))))
abbrev X_need_fractions : List D → W → Option (Xn × W) := denX 2 x_need_fractions
def d_added : M Fl := (seqM (exprM (callM D_need_fractions [] (consA (varM 0) (pureM []))))
  (seqM (setM' 1 (tupM (consA (pureM (.sh (.int 0))) (consA (pureM (.sh (.int 1))) (pureM [])))))
  (seqM (forM (bindM (varM 0) iterM) (gNameM 2)
   (setM' 1 (callM D_plus [] (consA (varM 1) (consA (varM 2) (pureM []))))))
  (retM (varM 1)))))
abbrev D_added : List D → W → Option (RV × W) := denB 3 d_added
def x_added : M Xn := (callX X_need_fractions [] (consA (varM 0) (pureM [])))
abbrev X_added : List D → W → Option (Xn × W) := denX 3 x_added
def g_lam_0 : M RV := (callM D_added [] (consA (varM 0) (pureM [])))
def x_lam_0 : M Xn := (callX X_added [] (consA (varM 0) (pureM [])))
def d_times : M Fl := (retM (callM D_divided [] (consA (op2M mulD (op2M ixD (varM 0) (pureM (.sh (.int 0)))) (op2M ixD (varM 1) (pureM (.sh (.int 0))))) (consA (op2M mulD (op2M ixD (varM 0) (pureM (.sh (.int 1)))) (op2M ixD (varM 1) (pureM (.sh (.int 1))))) (pureM [])))))
abbrev D_times : List D → W → Option (RV × W) := denB 2 d_times
def d_multiplied : M Fl := (seqM (exprM (callM D_need_fractions [] (consA (varM 0) (pureM []))))
  (seqM (setM' 1 (tupM (consA (pureM (.sh (.int 1))) (consA (pureM (.sh (.int 1))) (pureM [])))))
  (seqM (forM (bindM (varM 0) iterM) (gNameM 2)
   (setM' 1 (callM D_times [] (consA (varM 1) (consA (varM 2) (pureM []))))))
  (retM (varM 1)))))
abbrev D_multiplied : List D → W → Option (RV × W) := denB 3 d_multiplied
def x_multiplied : M Xn := (callX X_need_fractions [] (consA (varM 0) (pureM [])))
abbrev X_multiplied : List D → W → Option (Xn × W) := denX 3 x_multiplied
def g_lam_1 : M RV := (callM D_multiplied [] (consA (varM 0) (pureM [])))
def x_lam_1 : M Xn := (callX X_multiplied [] (consA (varM 0) (pureM [])))
def g_lam_2 : M RV := (callKM [0] D_added (consA (bM tupD (consA (varM 0) (pureM []))) (pureM [])))
def x_lam_2 : M Xn := (callKX [0] X_added (consA (bM tupD (consA (varM 0) (pureM []))) (pureM [])))
def g_lam_3 : M RV := (callKM [0] D_multiplied (consA (bM tupD (consA (varM 0) (pureM []))) (pureM [])))
def x_lam_3 : M Xn := (callKX [0] X_multiplied (consA (bM tupD (consA (varM 0) (pureM []))) (pureM [])))
def d_fraction : M Fl := (seqM (ifM (notT (boolM (callM D_is_number [] (consA (varM 0) (pureM []))))) failM (pureM .nx))
  (seqM (ifM (orT (notT (boolM (callM D_is_number [] (consA (varM 1) (pureM []))))) (boolM (op2M ltD (varM 1) (pureM (.sh (.int 1)))))) failM (pureM .nx))
  (retM (callM D_divided [] (consA (varM 0) (consA (varM 1) (pureM [])))))))
abbrev D_fraction : List D → W → Option (RV × W) := denB 2 d_fraction
def x_fraction : M Xn := (alt (ifX (notT (boolM (callM D_is_number [] (consA (varM 0) (pureM []))))) (raiseX "BadNumber" "number" (consA (varM 0) (pureM []))) failM) (seqX (ifM (notT (boolM (callM D_is_number [] (consA (varM 0) (pureM []))))) failM (pureM .nx))
  (ifX (orT (notT (boolM (callM D_is_number [] (consA (varM 1) (pureM []))))) (boolM (op2M ltD (varM 1) (pureM (.sh (.int 1)))))) (raiseX "BadNumber" "number" (consA (varM 1) (pureM []))) failM)))
abbrev X_fraction : List D → W → Option (Xn × W) := denX 2 x_fraction
def g_lam_4 : M RV := (callM D_fraction [] (consA (varM 0) (consA (pureM (.sh (.int 0))) (pureM []))))
def x_lam_4 : M Xn := (callX X_fraction [] (consA (varM 0) (consA (pureM (.sh (.int 0))) (pureM []))))
def g_lam_5 : M RV := (callM D_fraction [] (consA (pureM (.sh (.int 1))) (consA (varM 0) (pureM []))))
def x_lam_5 : M Xn := (callX X_fraction [] (consA (pureM (.sh (.int 1))) (consA (varM 0) (pureM []))))
def g_lam_6 : M RV := (callM D_added [] (consA (varM 0) (pureM [])))
def x_lam_6 : M Xn := (callX X_added [] (consA (varM 0) (pureM [])))
def g_lam_7 : M RV := (callM D_multiplied [] (consA (varM 0) (pureM [])))
def x_lam_7 : M Xn := (callX X_multiplied [] (consA (varM 0) (pureM [])))
def g_lam_8 : M RV := (callM D_fraction [] (consA (varM 0) (consA (varM 1) (pureM []))))
def x_lam_8 : M Xn := (callX X_fraction [] (consA (varM 0) (consA (varM 1) (pureM []))))
def g_lam_9 : M RV := (callKM [1, 0] D_fraction (consA (varM 0) (consA (varM 1) (pureM []))))
def x_lam_9 : M Xn := (callKX [1, 0] X_fraction (consA (varM 0) (consA (varM 1) (pureM []))))
def tabL : Nat → List D → W → Option (RV × W)
  | 0 => denE 1 g_lam_0
  | 1 => denE 1 g_lam_1
  | 2 => denE 1 g_lam_2
  | 3 => denE 1 g_lam_3
  | 4 => denE 1 g_lam_4
  | 5 => denE 1 g_lam_5
  | 6 => denE 1 g_lam_6
  | 7 => denE 1 g_lam_7
  | 8 => denE 2 g_lam_8
  | 9 => denE 2 g_lam_9
  | _ => fun _ _ => none
def tabX : Nat → List D → W → Option (Xn × W)
  | 0 => denEX 1 x_lam_0
  | 1 => denEX 1 x_lam_1
  | 2 => denEX 1 x_lam_2
  | 3 => denEX 1 x_lam_3
  | 4 => denEX 1 x_lam_4
  | 5 => denEX 1 x_lam_5
  | 6 => denEX 1 x_lam_6
  | 7 => denEX 1 x_lam_7
  | 8 => denEX 2 x_lam_8
  | 9 => denEX 2 x_lam_9
  | _ => fun _ _ => none
def d_law_told : M Fl := (seqM (asgSt (tupM (consA (pureM (.sh .non)) (consA (pureM (.sh .non)) (pureM [])))) (gTupM (gConsM (gNameM 1) (gConsM (gNameM 2) gNilM))))
  (seqM (tryM xs_MeanError 3 1 (setM' 2 (actM tabL 0)) (actX tabX 0))
  (seqM (ifM (boolM (op1M (isNonD false) (varM 1))) (retM (tupM (consA (varM 2) (pureM [])))) (pureM .nx))
  (retM (ifM (andT (boolM (alt (isiM bt_BadNumber ic_BadNumber (varM 1)) (op1M (isxD xi_BadNumber) (varM 1)))) (notT (boolM (alt (isiM bt_NoTable ic_NoTable (varM 1)) (op1M (isxD xi_NoTable) (varM 1)))))) (lstM (consA (op1M (xfD xf_number "number") (varM 1)) (pureM []))) (lstM (consA (pureM (.sh (.str "other"))) (pureM []))))))))
abbrev D_law_told : List D → W → Option (RV × W) := denB 4 d_law_told
def d_law_mixed : M Fl := (seqM (parSt [1, 2] (pend1 (op2M addD (drI W.turn (varM 0)) (pureM (.sh (.int 1)))) (pend1 (pureM (.sh (.int 0))) (pureM []))))
  (seqM (drSet (fun w i => { w with turn := i }) (varM 1) (varM 0))
  (seqM (forM (bindM (lstM (consA (pureM (.sh (.int 2147483629))) (consA (pureM (.sh (.int 2147483587))) (consA (pureM (.sh (.int 2147483579))) (consA (pureM (.sh (.int 2147483563))) (pureM [])))))) iterM) (gNameM 3)
   (seqM (setM' 4 (op2M addD (op2M mulD (pureM (.sh (.int 61441))) (varM 1)) (op2M (intD fdivI) (varM 3) (pureM (.sh (.int 19))))))
  (seqM (forM (drC (varM 0)) (gNameM 5)
   (setM' 4 (op2M (intD modI) (bM intFD (consA (op2M addD (op2M addD (op2M mulD (varM 4) (pureM (.sh (.int 48271)))) (varM 5)) (varM 1)) (pureM []))) (varM 3))))
  (setM' 2 (op2M addD (op2M mulD (varM 2) (pureM (.sh (.int 2147483647)))) (op2M (intD modI) (bM intFD (consA (op2M (intD powI) (varM 4) (pureM (.sh (.int 5)))) (pureM []))) (varM 3)))))))
  (retM (varM 2)))))
abbrev D_law_mixed : List D → W → Option (RV × W) := denB 6 d_law_mixed
def d_law_take : M Fl := (seqM (ifM (boolM (op2M eqD (drI W.rest (varM 0)) (pureM (.sh (.int 0))))) (drSet (fun w i => { w with rest := i }) (ifM (drT (fun w => !w.wide.isEmpty) (varM 0)) (drPop (varM 0)) (callM D_law_mixed [] (consA (varM 0) (pureM [])))) (varM 0)) (pureM .nx))
  (seqM (setM' 2 (op2M (intD modI) (bM intFD (consA (drI W.rest (varM 0)) (pureM []))) (varM 1)))
  (seqM (drSet (fun w i => { w with rest := i }) (op2M (intD fdivI) (drI W.rest (varM 0)) (varM 1)) (varM 0))
  (retM (varM 2)))))
abbrev D_law_take : List D → W → Option (RV × W) := denB 3 d_law_take
def d_law_pick : M Fl := (retM (op2M ixD (varM 1) (callM D_law_take [] (consA (varM 0) (consA (bM lenD (consA (varM 1) (pureM []))) (pureM []))))))
abbrev D_law_pick : List D → W → Option (RV × W) := denB 2 d_law_pick
def d_law_divided : M Fl := (seqM (parSt [2, 3] (pend1 (bM absD (consA (bM intFD (consA (varM 0) (pureM []))) (pureM []))) (pend1 (bM intFD (consA (varM 1) (pureM []))) (pureM []))))
  (seqM (whileM (boolM (op2M gtD (varM 3) (pureM (.sh (.int 0))))) (parSt [2, 3] (pend1 (varM 3) (pend1 (op2M (intD modI) (bM intFD (consA (varM 2) (pureM []))) (varM 3)) (pureM [])))) 1000000)
  (retM (tupM (consA (op2M (intD fdivI) (varM 0) (varM 2)) (consA (op2M (intD fdivI) (varM 1) (varM 2)) (pureM [])))))))
abbrev D_law_divided : List D → W → Option (RV × W) := denB 4 d_law_divided
def d_law_by : M Fl := (retM (callM D_law_divided [] (consA (op2M mulD (op2M ixD (varM 0) (pureM (.sh (.int 0)))) (op2M ixD (varM 1) (pureM (.sh (.int 0))))) (consA (op2M mulD (op2M ixD (varM 0) (pureM (.sh (.int 1)))) (op2M ixD (varM 1) (pureM (.sh (.int 1))))) (pureM [])))))
abbrev D_law_by : List D → W → Option (RV × W) := denB 2 d_law_by
def d_law_plus : M Fl := (retM (callM D_law_divided [] (consA (op2M addD (op2M mulD (op2M ixD (varM 0) (pureM (.sh (.int 0)))) (op2M ixD (varM 1) (pureM (.sh (.int 1))))) (op2M mulD (op2M ixD (varM 1) (pureM (.sh (.int 0)))) (op2M ixD (varM 0) (pureM (.sh (.int 1)))))) (consA (op2M mulD (op2M ixD (varM 0) (pureM (.sh (.int 1)))) (op2M ixD (varM 1) (pureM (.sh (.int 1))))) (pureM [])))))
abbrev D_law_plus : List D → W → Option (RV × W) := denB 2 d_law_plus
def d_law_is_good : M Fl := (seqM (ifM (orT (notT (boolM (isiM bt_tuple ic_tuple (varM 0)))) (boolM (op2M neD (bM lenD (consA (varM 0) (pureM []))) (pureM (.sh (.int 2)))))) (retM (pureM (.sh (.bl false)))) (pureM .nx))
  (seqM (ifM (boolM (op2M neD (lcM (bindM (varM 0) iterM) [1] (gNameM 1) (orT (notT (boolM (isiM bt_int ic_int (varM 1)))) (boolM (isiM bt_bool ic_bool (varM 1)))) (varM 1)) (lstM (pureM [])))) (retM (pureM (.sh (.bl false)))) (pureM .nx))
  (retM (andM (op2M geD (op2M ixD (varM 0) (pureM (.sh (.int 1)))) (pureM (.sh (.int 1)))) (op2M eqD (callM D_law_divided [] (consA (op2M ixD (varM 0) (pureM (.sh (.int 0)))) (consA (op2M ixD (varM 0) (pureM (.sh (.int 1)))) (pureM [])))) (varM 0))))))
abbrev D_law_is_good : List D → W → Option (RV × W) := denB 2 d_law_is_good
def d_law_lists_right : M Fl := (seqM (asgSt (tupM (consA (lcM (bindM (varM 1) iterM) [6] (gNameM 6) (notT (boolM (callM D_law_is_good [] (consA (varM 6) (pureM []))))) (varM 6)) (consA (tupM (consA (pureM (.sh (.int 0))) (consA (pureM (.sh (.int 1))) (pureM [])))) (consA (tupM (consA (pureM (.sh (.int 1))) (consA (pureM (.sh (.int 1))) (pureM [])))) (consA (bM (orN reprS reprQ) (consA (varM 1) (pureM []))) (pureM [])))))) (gTupM (gConsM (gNameM 2) (gConsM (gNameM 3) (gConsM (gNameM 4) (gConsM (gNameM 5) gNilM))))))
  (seqM (forM (bindM (lcM (bindM (varM 1) iterM) [7] (gNameM 7) (boolM (op2M eq0D (varM 2) (lstM (pureM [])))) (varM 7)) iterM) (gNameM 6)
   (parSt [3, 4] (pend1 (callM D_law_plus [] (consA (varM 3) (consA (varM 6) (pureM [])))) (pend1 (callM D_law_by [] (consA (varM 4) (consA (varM 6) (pureM [])))) (pureM [])))))
  (seqM (setM' 8 (lstM (consA (lamCall 0 [1] D_law_told (pureM [])) (pureM []))))
  (seqM (exprM (appM 8 (lamCall 1 [1] D_law_told (pureM []))))
  (seqM (exprM (appM 8 (lamCall 2 [1] D_law_told (pureM []))))
  (seqM (exprM (appM 8 (lamCall 3 [1] D_law_told (pureM []))))
  (seqM (setM' 9 (ifM (boolM (op2M eq0D (varM 2) (lstM (pureM [])))) (lstM (consA (tupM (consA (varM 3) (pureM []))) (consA (tupM (consA (varM 4) (pureM []))) (consA (tupM (consA (varM 3) (pureM []))) (consA (tupM (consA (varM 4) (pureM []))) (pureM [])))))) (op2M repD (lstM (consA (lstM (consA (op2M ixD (varM 2) (pureM (.sh (.int 0)))) (pureM []))) (pureM []))) (pureM (.sh (.int 4))))))
  (retM (andM (op2M eqD (bM (orN reprS reprQ) (consA (varM 8) (pureM []))) (bM (orN reprS reprQ) (consA (varM 9) (pureM [])))) (op2M eqD (bM (orN reprS reprQ) (consA (varM 1) (pureM []))) (varM 5)))))))))))
abbrev D_law_lists_right : List D → W → Option (RV × W) := denB 10 d_law_lists_right
def d_law_odd : M Fl := (seqM (setM' 1 (lstM (consA (pureM (.sh .non)) (consA (pureM (.sh (.bl true))) (consA (pureM (.sh (.bl false))) (consA (op1M negD (pureM (.sh (.int 1)))) (consA (op1M negD (pureM (.sh (.int 7)))) (consA (op2M (intD powI) (pureM (.sh (.int 10))) (pureM (.sh (.int 40)))) (consA (pureM (.sh (.str ""))) (consA (pureM (.sh (.str "a"))) (consA (pureM (.sh (.str "z"))) (consA (pureM (.sh (.str "ba"))) (consA (pureM (.sh (.str "aa"))) (consA (pureM (.sh (.str "R"))) (consA (tupM (pureM [])) (consA (tupM (consA (pureM (.sh (.int 0))) (pureM []))) (consA (tupM (consA (pureM (.sh (.str "a"))) (consA (pureM (.sh (.str "b"))) (pureM [])))) (consA (lstM (pureM [])) (consA (lstM (consA (pureM (.sh (.int 1))) (pureM []))) (consA (pureM (.fr (.dic []))) (consA (pureM (.sh (.int 0))) (consA (pureM (.sh (.int 7))) (pureM [])))))))))))))))))))))))
  (seqM (setM' 1 (op2M addD (varM 1) (lstM (consA (lstM (consA (lstM (pureM [])) (pureM []))) (consA (tupM (consA (pureM (.sh (.bl true))) (pureM []))) (consA (tupM (consA (pureM (.sh (.int 0))) (consA (pureM (.sh .non)) (pureM [])))) (consA (pureM (.sh (.str "1"))) (consA (tupM (consA (pureM (.sh (.str ""))) (pureM []))) (consA (op1M negD (op2M (intD powI) (pureM (.sh (.int 10))) (pureM (.sh (.int 20))))) (consA (tupM (consA (pureM (.sh (.int 1))) (consA (pureM (.sh (.int 1))) (pureM [])))) (consA (pureM (.sh (.str "abcdr"))) (consA (pureM (.sh (.str "abr "))) (consA (pureM (.fr (.dic [(.str "a", .int 1)]))) (pureM []))))))))))))))
  (retM (callM D_law_pick [] (consA (varM 0) (consA (varM 1) (pureM [])))))))
abbrev D_law_odd : List D → W → Option (RV × W) := denB 2 d_law_odd
def d_law_near : M Fl := (seqM (asgSt (varM 1) (gTupM (gConsM (gNameM 2) (gConsM (gNameM 3) gNilM))))
  (seqM (setM' 4 (lstM (consA (varM 1) (consA (varM 1) (consA (lstM (consA (varM 2) (consA (varM 3) (pureM [])))) (consA (tupM (consA (op2M mulD (varM 2) (pureM (.sh (.int 2)))) (consA (op2M mulD (varM 3) (pureM (.sh (.int 2)))) (pureM [])))) (consA (tupM (consA (varM 2) (consA (op2M subD (pureM (.sh (.int 0))) (varM 3)) (pureM [])))) (consA (tupM (consA (varM 2) (consA (pureM (.sh (.int 0))) (pureM [])))) (consA (tupM (consA (varM 2) (pureM []))) (consA (tupM (consA (varM 2) (consA (varM 3) (consA (pureM (.sh (.int 1))) (pureM []))))) (pureM [])))))))))))
  (retM (callM D_law_pick [] (consA (varM 0) (consA (op2M addD (varM 4) (lstM (consA (tupM (consA (pureM (.sh (.bl true))) (consA (varM 3) (pureM [])))) (consA (tupM (consA (varM 2) (consA (pureM (.sh (.bl true))) (pureM [])))) (consA (tupM (consA (pureM (.sh .non)) (consA (varM 3) (pureM [])))) (consA (tupM (consA (bM strID (consA (varM 2) (pureM []))) (consA (varM 3) (pureM [])))) (consA (callM D_law_odd [] (consA (varM 0) (pureM []))) (pureM [])))))))) (pureM [])))))))
abbrev D_law_near : List D → W → Option (RV × W) := denB 5 d_law_near
def d_law_number : M Fl := (seqM (setM' 1 (callM D_law_pick [] (consA (varM 0) (consA (lstM (consA (pureM (.sh (.int 3))) (consA (pureM (.sh (.int 3))) (consA (pureM (.sh (.int 12))) (consA (pureM (.sh (.int 12))) (consA (pureM (.sh (.int 1000))) (consA (op2M (intD powI) (pureM (.sh (.int 10))) (pureM (.sh (.int 18)))) (consA (op2M (intD powI) (pureM (.sh (.int 10))) (pureM (.sh (.int 40)))) (pureM []))))))))) (pureM [])))))
  (seqM (setM' 2 (op2M mulD (callM D_law_take [] (consA (varM 0) (consA (varM 1) (pureM [])))) (callM D_law_pick [] (consA (varM 0) (consA (lstM (consA (pureM (.sh (.int 1))) (consA (pureM (.sh (.int 1))) (consA (pureM (.sh (.int 2))) (consA (pureM (.sh (.int 3))) (consA (pureM (.sh (.int 6))) (consA (op2M (intD powI) (pureM (.sh (.int 10))) (pureM (.sh (.int 30)))) (pureM [])))))))) (pureM []))))))
  (retM (ifM (boolM (op2M eqD (callM D_law_take [] (consA (varM 0) (consA (pureM (.sh (.int 2))) (pureM [])))) (pureM (.sh (.int 0))))) (varM 2) (op2M subD (pureM (.sh (.int 0))) (varM 2))))))
abbrev D_law_number : List D → W → Option (RV × W) := denB 3 d_law_number
def d_law : M Fl := (seqM (forM (bindM (consA (op2M addD (pureM (.sh (.int 4))) (bM minD (consA (bM lenD (consA (varM 0) (pureM []))) (consA (pureM (.sh (.int 12))) (pureM []))))) (pureM [])) rangeM) (gNameM 2)
   (seqM (asgSt (tupM (consA (callM D_law_number [] (consA (varM 1) (pureM []))) (consA (callM D_law_number [] (consA (varM 1) (pureM []))) (pureM [])))) (gTupM (gConsM (gNameM 11) (gConsM (gNameM 12) gNilM))))
  (seqM (setM' 3 (ifM (boolM (op2M ltD (varM 12) (pureM (.sh (.int 1))))) (lstM (consA (varM 12) (pureM []))) (tupM (consA (callM D_law_divided [] (consA (varM 11) (consA (bM max2D (consA (pureM (.sh (.int 1))) (consA (varM 12) (pureM [])))) (pureM [])))) (pureM [])))))
  (seqM (ifM (boolM (op2M neD (bM (orN reprS reprQ) (consA (lamCall 8 [11, 12] D_law_told (pureM [])) (pureM []))) (bM (orN reprS reprQ) (consA (varM 3) (pureM []))))) (retM (pureM (.sh (.bl false)))) (pureM .nx))
  (seqM (ifM (orT (boolM (op2M neD (bM (orN reprS reprQ) (consA (lamCall 9 [12, 11] D_law_told (pureM [])) (pureM []))) (bM (orN reprS reprQ) (consA (varM 3) (pureM []))))) (boolM (op2M neD (callM D_fraction [.int 1] (consA (varM 11) (pureM []))) (tupM (consA (varM 11) (consA (pureM (.sh (.int 1))) (pureM []))))))) (retM (pureM (.sh (.bl false)))) (pureM .nx))
  (seqM (setM' 4 (callM D_law_pick [] (consA (varM 1) (consA (lstM (consA (pureM (.sh (.bl true))) (consA (pureM (.sh .non)) (consA (pureM (.sh (.str "1"))) (consA (tupM (consA (pureM (.sh (.int 1))) (consA (pureM (.sh (.int 1))) (pureM [])))) (consA (lstM (pureM [])) (consA (pureM (.fr (.dic []))) (consA (pureM (.sh (.bl false))) (pureM []))))))))) (pureM [])))))
  (seqM (setM' 5 (lstM (consA (lamCall 4 [4] D_law_told (pureM [])) (pureM []))))
  (seqM (exprM (appM 5 (lamCall 5 [4] D_law_told (pureM []))))
  (seqM (ifM (boolM (op2M neD (bM (orN reprS reprQ) (consA (varM 5) (pureM []))) (bM (orN reprS reprQ) (consA (op2M repD (lstM (consA (lstM (consA (varM 4) (pureM []))) (pureM []))) (pureM (.sh (.int 2)))) (pureM []))))) (retM (pureM (.sh (.bl false)))) (pureM .nx))
  (seqM (setM' 6 (callM D_law_divided [] (consA (varM 11) (consA (bM max2D (consA (pureM (.sh (.int 1))) (consA (varM 12) (pureM [])))) (pureM [])))))
  (seqM (setM' 7 (callM D_law_near [] (consA (varM 1) (consA (varM 6) (pureM [])))))
  (seqM (ifM (boolM (op2M neD (bM (orN reprS reprQ) (consA (lstM (consA (callM D_is_fraction [] (consA (varM 7) (pureM []))) (consA (callKM [0] D_is_fraction (consA (varM 6) (pureM []))) (pureM [])))) (pureM []))) (bM (orN reprS reprQ) (consA (lstM (consA (callM D_law_is_good [] (consA (varM 7) (pureM []))) (consA (pureM (.sh (.bl true))) (pureM [])))) (pureM []))))) (retM (pureM (.sh (.bl false)))) (pureM .nx))
  (seqM (setM' 8 (lcM (bindM (consA (callM D_law_take [] (consA (varM 1) (consA (pureM (.sh (.int 9))) (pureM [])))) (pureM [])) rangeM) [13] (gNameM 13) (pureM true) (callM D_law_divided [] (consA (callM D_law_number [] (consA (varM 1) (pureM []))) (consA (op2M addD (pureM (.sh (.int 1))) (bM absD (consA (callM D_law_number [] (consA (varM 1) (pureM []))) (pureM [])))) (pureM []))))))
  (seqM (ifM (orT (notT (boolM (callM D_law_lists_right [] (consA (varM 1) (consA (varM 8) (pureM [])))))) (orT (boolM (op2M neD (callM D_added [] (consA (lstM (pureM [])) (pureM []))) (tupM (consA (pureM (.sh (.int 0))) (consA (pureM (.sh (.int 1))) (pureM [])))))) (boolM (op2M neD (callM D_multiplied [] (consA (tupM (pureM [])) (pureM []))) (tupM (consA (pureM (.sh (.int 1))) (consA (pureM (.sh (.int 1))) (pureM [])))))))) (retM (pureM (.sh (.bl false)))) (pureM .nx))
  (seqM (setM' 9 (lcM (bindM (varM 8) iterM) [11] (gNameM 11) (pureM true) (ifM (boolM (op2M eqD (callM D_law_take [] (consA (varM 1) (consA (pureM (.sh (.int 4))) (pureM [])))) (pureM (.sh (.int 0))))) (callM D_law_near [] (consA (varM 1) (consA (varM 11) (pureM [])))) (varM 11))))
  (seqM (ifM (notT (boolM (callM D_law_lists_right [] (consA (varM 1) (consA (varM 9) (pureM [])))))) (retM (pureM (.sh (.bl false)))) (pureM .nx))
  (seqM (setM' 10 (callM D_law_pick [] (consA (varM 1) (consA (lstM (consA (pureM (.sh .non)) (consA (pureM (.sh (.int 5))) (consA (pureM (.sh (.bl true))) (consA (pureM (.sh (.str ""))) (consA (pureM (.sh (.str "ab"))) (consA (pureM (.fr (.dic []))) (consA (pureM (.fr (.dit [(.tup [.int 1, .int 1], .int 2)]))) (pureM []))))))))) (pureM [])))))
  (seqM (setM' 5 (lstM (consA (lamCall 6 [10] D_law_told (pureM [])) (pureM []))))
  (seqM (exprM (appM 5 (lamCall 7 [10] D_law_told (pureM []))))
  (ifM (boolM (op2M neD (bM (orN reprS reprQ) (consA (varM 5) (pureM []))) (bM (orN reprS reprQ) (consA (op2M repD (lstM (consA (lstM (consA (varM 10) (pureM []))) (pureM []))) (pureM (.sh (.int 2)))) (pureM []))))) (retM (pureM (.sh (.bl false)))) (pureM .nx)))))))))))))))))))))
  (retM (pureM (.sh (.bl true)))))
def law : List Int → Bool := denL 14 beg d_law
/-! defs that the law does not reach -/
/-! from other laws -/
end
end KL

end sec_Dens
section sec_Ders
set_option maxRecDepth 100000
set_option maxHeartbeats 4000000
/-! printed by gen.py: the defs that the law reaches, their denotations and derivations -/
namespace KL
open PySem L2 FD
open PyProof.Rows (envOfC)
def top (i : Nat) : Stmt := PySem.Challenge.pw_meanways_k02_fractions.main.body.getD i (.Pass ⟨0, 0, 0, 0⟩)
abbrev s_law_begun : Stmt := top 16
abbrev s_divisor_of : Stmt := top 6
abbrev s_divided : Stmt := top 8
abbrev s_plus : Stmt := top 10
abbrev s_is_number : Stmt := top 5
abbrev s_is_fraction : Stmt := top 7
abbrev s_need_fractions : Stmt := top 12
abbrev s_added : Stmt := top 13
abbrev s_times : Stmt := top 11
abbrev s_multiplied : Stmt := top 14
abbrev s_fraction : Stmt := top 9
abbrev s_law_told : Stmt := top 27
abbrev s_law_mixed : Stmt := top 17
abbrev s_law_take : Stmt := top 18
abbrev s_law_pick : Stmt := top 19
abbrev s_law_divided : Stmt := top 21
abbrev s_law_by : Stmt := top 23
abbrev s_law_plus : Stmt := top 22
abbrev s_law_is_good : Stmt := top 26
abbrev s_law_lists_right : Stmt := top 28
abbrev s_law_odd : Stmt := top 20
abbrev s_law_near : Stmt := top 25
abbrev s_law_number : Stmt := top 24
abbrev s_law : Stmt := top 29
abbrev s_BadNumber_init : Stmt := inClass (top 2) 0
theorem sc_BadNumber_init : FnScope ["self", "number"] ["self", "number"] (defScope s_BadNumber_init) := C8.fnScope_by (by decide +kernel)
structure Gt [Tabl] (K : PySem.W.Frag) (mg : Str → Option Value) : Prop where
  n_abs : mg "abs" = none
  n_bool : mg "bool" = none
  n_int : mg "int" = none
  n_isinstance : mg "isinstance" = none
  n_len : mg "len" = none
  n_list : mg "list" = none
  n_max : mg "max" = none
  n_min : mg "min" = none
  n_range : mg "range" = none
  n_repr : mg "repr" = none
  n_str : mg "str" = none
  n_tuple : mg "tuple" = none
  i_NoTable : IsiC K mg "NoTable" bt_NoTable ic_NoTable
  i_BadNumber : IsiC K mg "BadNumber" bt_BadNumber ic_BadNumber
  i_list_tuple : KndD K mg (fun t b => PySem.W.kitAny K t [.type "list", .type "tuple"] = some b) bt_list_tuple ic_list_tuple
  i_tuple : KndD K mg (fun t b => PySem.W.kitOne K t (.type "tuple") = some b) bt_tuple ic_tuple
  i_bool : KndD K mg (fun t b => PySem.W.kitOne K t (.type "bool") = some b) bt_bool ic_bool
  i_int : KndD K mg (fun t b => PySem.W.kitOne K t (.type "int") = some b) bt_int ic_int
  xs_MeanError : XcatD K mg "MeanError" xs_MeanError
  xi_BadNumber : IsxC K mg "BadNumber" xi_BadNumber
  xi_NoTable : IsxC K mg "NoTable" xi_NoTable
  xf_number : KfD K mg xf_number "number"
section
variable [Tabl] {P : Program} {w : World} {K : PySem.W.Frag} {mg : Str → Option Value} {base : Heap}
/-! _law_begun -/
theorem sc_law_begun : FnScope ["_law_script", "_law_wide", "_law_cell"] ["_law_script"] (defScope s_law_begun) := C8.fnScope_by (by decide +kernel)
theorem ok_law_begun {f : Addr} {fd : FuncData} (G : Gt K mg) (F : Fun K "_law_begun" "_law_begun" s_law_begun f fd) : FnOk P w K mg base CX0 2 f fd ["_law_script"] (spB ⟨K, mg⟩ beg) :=
  have sc := sc_law_begun
  begun_ok (k := 1) (i := 1) F sc rfl rfl (fun cdv A outer s H E hr => (fs_setLc rfl sc.nd (i := 1) rfl rfl rfl (own := [("_law_cell", 2)]) (fi_val (fe_var (i := 0) rfl (by first | exact Or.inl rfl | exact Or.inr (Or.inl rfl) | exact Or.inr (Or.inr rfl)))) (blkOk_by (by show blkC ["_law_script", "_law_wide", "_law_cell"] (defScope s_law_begun) _ [("_law_cell", 2)] = true; decide +kernel)) (fun _ _ _ _ _ => (fg_name (i := 2) sc.nd rfl (by first | exact Or.inl rfl | exact Or.inr rfl))) (fun _ _ _ _ _ => (fts_one (FC.ft (fc_data opD_ge (fe_b bD_abs rfl G.n_abs bo_abs (fa_cons (fe_var (i := 2) rfl (by first | exact Or.inl rfl | exact Or.inr (Or.inl rfl) | exact Or.inr (Or.inr rfl))) fa_nil)) (fe_op opD_pow fe_int fe_int) rfl)))) (fun _ _ _ _ _ => (fe_op opD_sub (fe_b bD_abs rfl G.n_abs bo_abs (fa_cons (fe_var (i := 2) rfl (by first | exact Or.inl rfl | exact Or.inr (Or.inl rfl) | exact Or.inr (Or.inr rfl))) fa_nil)) (fe_op opD_pow fe_int fe_int))))) (fun cdv A outer s H E hr => (fe_lc rfl sc.nd (own := [("_law_cell", 2)]) (fi_val (fe_var (i := 0) rfl (by first | exact Or.inl rfl | exact Or.inr (Or.inl rfl) | exact Or.inr (Or.inr rfl)))) (blkOk_by (by show blkC ["_law_script", "_law_wide", "_law_cell"] (defScope s_law_begun) _ [("_law_cell", 2)] = true; decide +kernel)) (fun _ _ _ _ _ => (fg_name (i := 2) sc.nd rfl (by first | exact Or.inl rfl | exact Or.inr rfl))) (fun _ _ _ _ _ => fts_nil) (fun _ _ _ _ _ => (fe_op opD_mod (fe_ty bD_int rfl G.n_int bo_int (fa_cons (fe_b bD_abs rfl G.n_abs bo_abs (fa_cons (fe_var (i := 2) rfl (by first | exact Or.inl rfl | exact Or.inr (Or.inl rfl) | exact Or.inr (Or.inr rfl))) fa_nil)) fa_nil)) fe_int)))) rfl (by first | exact Or.inl rfl | exact Or.inr (Or.inl rfl) | exact Or.inr (Or.inr rfl)) (by decide +kernel) (by decide +kernel)
/-! divisor_of -/
theorem sc_divisor_of : FnScope ["one", "other"] ["one", "other"] (defScope s_divisor_of) := C8.fnScope_by (by decide +kernel)
theorem ok_divisor_of {f : Addr} {fd : FuncData} (G : Gt K mg) (F : Fun K "divisor_of" "divisor_of" s_divisor_of f fd) : FnOk P w K mg base CX0 2 f fd ["one", "other"] (spD ⟨K, mg⟩ 2 D_divisor_of) :=
  have sc := sc_divisor_of
  def_ok (k := 1) F sc (fun cdv A outer s H E hr => (fss_cons (fs_par2 rfl sc.nd (i := 0) (j := 1) rfl rfl (by decide) rfl rfl (fp_cons (fe_b bD_abs rfl G.n_abs bo_abs (fa_cons (fe_var (i := 0) rfl (by first | exact Or.inl rfl | exact Or.inr (Or.inl rfl) | exact Or.inr (Or.inr rfl))) fa_nil)) (fp_cons (fe_b bD_abs rfl G.n_abs bo_abs (fa_cons (fe_var (i := 1) rfl (by first | exact Or.inl rfl | exact Or.inr (Or.inl rfl) | exact Or.inr (Or.inr rfl))) fa_nil)) fp_nil)) rfl)
  (fss_cons (fs_while 1000000 PassesOwn.never (FC.ft (fc_data opD_gt (fe_var (i := 1) rfl (by first | exact Or.inl rfl | exact Or.inr (Or.inl rfl) | exact Or.inr (Or.inr rfl))) fe_int rfl)) (fss_one (fs_par2 rfl sc.nd (i := 0) (j := 1) rfl rfl (by decide) rfl rfl (fp_cons (fe_var (i := 1) rfl (by first | exact Or.inl rfl | exact Or.inr (Or.inl rfl) | exact Or.inr (Or.inr rfl))) (fp_cons (fe_op opD_mod (fe_var (i := 0) rfl (by first | exact Or.inl rfl | exact Or.inr (Or.inl rfl) | exact Or.inr (Or.inr rfl))) (fe_var (i := 1) rfl (by first | exact Or.inl rfl | exact Or.inr (Or.inl rfl) | exact Or.inr (Or.inr rfl)))) fp_nil)) rfl)))
  (fss_one (fs_ret (fe_var (i := 0) rfl (by first | exact Or.inl rfl | exact Or.inr (Or.inl rfl) | exact Or.inr (Or.inr rfl))))))))
/-! divided -/
theorem sc_divided : FnScope ["top", "bottom", "divisor"] ["top", "bottom"] (defScope s_divided) := C8.fnScope_by (by decide +kernel)
theorem ok_divided {f : Addr} {fd : FuncData} (G : Gt K mg) (F : Fun K "divided" "divided" s_divided f fd) (c_divisor_of : CalD P w K mg base 2 "divisor_of" 2 [] D_divisor_of) : FnOk P w K mg base CX0 3 f fd ["top", "bottom"] (spD ⟨K, mg⟩ 2 D_divided) :=
  have sc := sc_divided
  def_ok (k := 2) F sc (fun cdv A outer s H E hr => (fss_cons (fs_set (i := 2) sc.nd rfl (by first | exact Or.inl rfl | exact Or.inr rfl) (fe_op opD_mul (fe_call c_divisor_of hr rfl (fa_cons (fe_var (i := 0) rfl (by first | exact Or.inl rfl | exact Or.inr (Or.inl rfl) | exact Or.inr (Or.inr rfl))) (fa_cons (fe_var (i := 1) rfl (by first | exact Or.inl rfl | exact Or.inr (Or.inl rfl) | exact Or.inr (Or.inr rfl))) fa_nil))) (fe_ifExp (FC.ft (fc_data opD_gt (fe_var (i := 1) rfl (by first | exact Or.inl rfl | exact Or.inr (Or.inl rfl) | exact Or.inr (Or.inr rfl))) fe_int rfl)) fe_int (fe_un unD_neg fe_int))))
  (fss_one (fs_ret (fe_tup (fa_cons (fe_op opD_fdiv (fe_var (i := 0) rfl (by first | exact Or.inl rfl | exact Or.inr (Or.inl rfl) | exact Or.inr (Or.inr rfl))) (fe_var (i := 2) rfl (by first | exact Or.inl rfl | exact Or.inr (Or.inl rfl) | exact Or.inr (Or.inr rfl)))) (fa_cons (fe_op opD_fdiv (fe_var (i := 1) rfl (by first | exact Or.inl rfl | exact Or.inr (Or.inl rfl) | exact Or.inr (Or.inr rfl))) (fe_var (i := 2) rfl (by first | exact Or.inl rfl | exact Or.inr (Or.inl rfl) | exact Or.inr (Or.inr rfl)))) fa_nil)))))))
/-! plus -/
theorem sc_plus : FnScope ["one", "other"] ["one", "other"] (defScope s_plus) := C8.fnScope_by (by decide +kernel)
theorem ok_plus {f : Addr} {fd : FuncData} (G : Gt K mg) (F : Fun K "plus" "plus" s_plus f fd) (c_divided : CalD P w K mg base 3 "divided" 2 [] D_divided) : FnOk P w K mg base CX0 4 f fd ["one", "other"] (spD ⟨K, mg⟩ 2 D_plus) :=
  have sc := sc_plus
  def_ok (k := 3) F sc (fun cdv A outer s H E hr => (fss_one (fs_ret (fe_call c_divided hr rfl (fa_cons (fe_op opD_add (fe_op opD_mul (fe_ix ixD_ok (fe_var (i := 0) rfl (by first | exact Or.inl rfl | exact Or.inr (Or.inl rfl) | exact Or.inr (Or.inr rfl))) fe_int (fun _ _ => rfl)) (fe_ix ixD_ok (fe_var (i := 1) rfl (by first | exact Or.inl rfl | exact Or.inr (Or.inl rfl) | exact Or.inr (Or.inr rfl))) fe_int (fun _ _ => rfl))) (fe_op opD_mul (fe_ix ixD_ok (fe_var (i := 1) rfl (by first | exact Or.inl rfl | exact Or.inr (Or.inl rfl) | exact Or.inr (Or.inr rfl))) fe_int (fun _ _ => rfl)) (fe_ix ixD_ok (fe_var (i := 0) rfl (by first | exact Or.inl rfl | exact Or.inr (Or.inl rfl) | exact Or.inr (Or.inr rfl))) fe_int (fun _ _ => rfl)))) (fa_cons (fe_op opD_mul (fe_ix ixD_ok (fe_var (i := 0) rfl (by first | exact Or.inl rfl | exact Or.inr (Or.inl rfl) | exact Or.inr (Or.inr rfl))) fe_int (fun _ _ => rfl)) (fe_ix ixD_ok (fe_var (i := 1) rfl (by first | exact Or.inl rfl | exact Or.inr (Or.inl rfl) | exact Or.inr (Or.inr rfl))) fe_int (fun _ _ => rfl))) fa_nil))))))
/-! is_number -/
theorem sc_is_number : FnScope ["thing"] ["thing"] (defScope s_is_number) := C8.fnScope_by (by decide +kernel)
theorem ok_is_number {f : Addr} {fd : FuncData} (G : Gt K mg) (F : Fun K "is_number" "is_number" s_is_number f fd) : FnOk P w K mg base CX0 2 f fd ["thing"] (spD ⟨K, mg⟩ 1 D_is_number) :=
  have sc := sc_is_number
  def_ok (k := 1) F sc (fun cdv A outer s H E hr => (fss_one (fs_ret (fe_and (fe_isi rfl G.n_isinstance (pe_bltn (v := .ty "int") rfl G.n_int PyProof.Rows.boot_int rfl) (.ty _) G.i_int (fe_var (i := 0) rfl (by first | exact Or.inl rfl | exact Or.inr (Or.inl rfl) | exact Or.inr (Or.inr rfl)))) (fe_one (fe_not (fe_isi rfl G.n_isinstance (pe_bltn (v := .ty "bool") rfl G.n_bool PyProof.Rows.boot_bool rfl) (.ty _) G.i_bool (fe_var (i := 0) rfl (by first | exact Or.inl rfl | exact Or.inr (Or.inl rfl) | exact Or.inr (Or.inr rfl))))))))))
/-! is_fraction -/
theorem sc_is_fraction : FnScope ["thing"] ["thing"] (defScope s_is_fraction) := C8.fnScope_by (by decide +kernel)
theorem ok_is_fraction {f : Addr} {fd : FuncData} (G : Gt K mg) (F : Fun K "is_fraction" "is_fraction" s_is_fraction f fd) (c_divisor_of : CalD P w K mg base 2 "divisor_of" 2 [] D_divisor_of) (c_is_number : CalD P w K mg base 2 "is_number" 1 [] D_is_number) : FnOk P w K mg base CX0 3 f fd ["thing"] (spD ⟨K, mg⟩ 1 D_is_fraction) :=
  have sc := sc_is_fraction
  def_ok (k := 2) F sc (fun cdv A outer s H E hr => (fss_cons (fs_if (ft_w (fw_or (ft_not (ft_val (fe_isi rfl G.n_isinstance (pe_bltn (v := .ty "tuple") rfl G.n_tuple PyProof.Rows.boot_tuple rfl) (.ty _) G.i_tuple (fe_var (i := 0) rfl (by first | exact Or.inl rfl | exact Or.inr (Or.inl rfl) | exact Or.inr (Or.inr rfl)))))) (fw_or (FC.ft (fc_data (opD_ne hr) (fe_b bD_len rfl G.n_len bo_len (fa_cons (fe_var (i := 0) rfl (by first | exact Or.inl rfl | exact Or.inr (Or.inl rfl) | exact Or.inr (Or.inr rfl))) fa_nil)) fe_int rfl)) (fw_or (ft_not (ft_val (fe_call c_is_number hr rfl (fa_cons (fe_ix ixD_ok (fe_var (i := 0) rfl (by first | exact Or.inl rfl | exact Or.inr (Or.inl rfl) | exact Or.inr (Or.inr rfl))) fe_int (fun _ _ => rfl)) fa_nil)))) (fw_or1 (ft_not (ft_val (fe_call c_is_number hr rfl (fa_cons (fe_ix ixD_ok (fe_var (i := 0) rfl (by first | exact Or.inl rfl | exact Or.inr (Or.inl rfl) | exact Or.inr (Or.inr rfl))) fe_int (fun _ _ => rfl)) fa_nil))))))))) (fss_one (fs_ret fe_bl)) fss_nil)
  (fss_one (fs_ret (fe_and (FC.fe (fc_data opD_ge (fe_ix ixD_ok (fe_var (i := 0) rfl (by first | exact Or.inl rfl | exact Or.inr (Or.inl rfl) | exact Or.inr (Or.inr rfl))) fe_int (fun _ _ => rfl)) fe_int rfl)) (fe_one (FC.fe (fc_data (opD_eq hr) (fe_call c_divisor_of hr rfl (fa_cons (fe_ix ixD_ok (fe_var (i := 0) rfl (by first | exact Or.inl rfl | exact Or.inr (Or.inl rfl) | exact Or.inr (Or.inr rfl))) fe_int (fun _ _ => rfl)) (fa_cons (fe_ix ixD_ok (fe_var (i := 0) rfl (by first | exact Or.inl rfl | exact Or.inr (Or.inl rfl) | exact Or.inr (Or.inr rfl))) fe_int (fun _ _ => rfl)) fa_nil))) fe_int rfl))))))))
/-! need_fractions -/
theorem sc_need_fractions : FnScope ["fractions", "one"] ["fractions"] (defScope s_need_fractions) := C8.fnScope_by (by decide +kernel)
theorem ok_need_fractions {f : Addr} {fd : FuncData} (G : Gt K mg) (F : Fun K "need_fractions" "need_fractions" s_need_fractions f fd) (c_is_fraction : CalD P w K mg base 3 "is_fraction" 1 [] D_is_fraction) : FnOk P w K mg base CX0 4 f fd ["fractions"] (spD ⟨K, mg⟩ 1 D_need_fractions) :=
  have sc := sc_need_fractions
  def_ok (k := 3) F sc (fun cdv A outer s H E hr => (fss_cons (fs_if (ft_not (ft_val (fe_isiT rfl G.n_isinstance (pks_cons (pe_bltn (v := .ty "list") rfl G.n_list PyProof.Rows.boot_list rfl) (pks_cons (pe_bltn (v := .ty "tuple") rfl G.n_tuple PyProof.Rows.boot_tuple rfl) pks_nil)) (by decide) (.cons (.ty _) (.cons (.ty _) .nil)) G.i_list_tuple (fe_var (i := 0) rfl (by first | exact Or.inl rfl | exact Or.inr (Or.inl rfl) | exact Or.inr (Or.inr rfl)))))) (fss_one fs_never) fss_nil)
  (fss_one (fs_for PassesOwn.never rfl (fi_val (fe_var (i := 0) rfl (by first | exact Or.inl rfl | exact Or.inr (Or.inl rfl) | exact Or.inr (Or.inr rfl)))) (fg_name (i := 1) sc.nd rfl (by first | exact Or.inl rfl | exact Or.inr rfl))
   (fss_one (fs_if (ft_not (ft_val (fe_call c_is_fraction hr rfl (fa_cons (fe_var (i := 1) rfl (by first | exact Or.inl rfl | exact Or.inr (Or.inl rfl) | exact Or.inr (Or.inr rfl))) fa_nil)))) (fss_one fs_never) fss_nil))))))
theorem okx_need_fractions {f : Addr} {fd : FuncData} (G : Gt K mg) (F : Fun K "need_fractions" "need_fractions" s_need_fractions f fd) (xx_BadNumber : XcD P w K mg base "BadNumber" "number") (c_is_fraction : CalD P w K mg base 3 "is_fraction" 1 [] D_is_fraction) : FnOk P w K mg base (L2.CX P w) 4 f fd ["fractions"] (spX ⟨K, mg⟩ 1 X_need_fractions) :=
  have sc := sc_need_fractions
  xdef_ok (k := 3) F sc (fun cdv A outer s H E hr => (fx_alt (fx_here (fx1_if (ft_not (ft_val (fe_isiT rfl G.n_isinstance (pks_cons (pe_bltn (v := .ty "list") rfl G.n_list PyProof.Rows.boot_list rfl) (pks_cons (pe_bltn (v := .ty "tuple") rfl G.n_tuple PyProof.Rows.boot_tuple rfl) pks_nil)) (by decide) (.cons (.ty _) (.cons (.ty _) .nil)) G.i_list_tuple (fe_var (i := 0) rfl (by first | exact Or.inl rfl | exact Or.inr (Or.inl rfl) | exact Or.inr (Or.inr rfl)))))) (fx_here (fx1_raise xx_BadNumber rfl hr rfl (fa_cons (fe_var (i := 0) rfl (by first | exact Or.inl rfl | exact Or.inr (Or.inl rfl) | exact Or.inr (Or.inr rfl))) fa_nil))) fx_none)) (fx_later (fs_if (ft_not (ft_val (fe_isiT rfl G.n_isinstance (pks_cons (pe_bltn (v := .ty "list") rfl G.n_list PyProof.Rows.boot_list rfl) (pks_cons (pe_bltn (v := .ty "tuple") rfl G.n_tuple PyProof.Rows.boot_tuple rfl) pks_nil)) (by decide) (.cons (.ty _) (.cons (.ty _) .nil)) G.i_list_tuple (fe_var (i := 0) rfl (by first | exact Or.inl rfl | exact Or.inr (Or.inl rfl) | exact Or.inr (Or.inr rfl)))))) (fss_one fs_never) fss_nil)
  (fx_here (fx1_for rfl (fi_val (fe_var (i := 0) rfl (by first | exact Or.inl rfl | exact Or.inr (Or.inl rfl) | exact Or.inr (Or.inr rfl)))) (fg_name (i := 1) sc.nd rfl (by first | exact Or.inl rfl | exact Or.inr rfl))
   (fss_one (fs_if (ft_not (ft_val (fe_call c_is_fraction hr rfl (fa_cons (fe_var (i := 1) rfl (by first | exact Or.inl rfl | exact Or.inr (Or.inl rfl) | exact Or.inr (Or.inr rfl))) fa_nil)))) (fss_one fs_never) fss_nil))
   (fx_here (fx1_if (ft_not (ft_val (fe_call c_is_fraction hr rfl (fa_cons (fe_var (i := 1) rfl (by first | exact Or.inl rfl | exact Or.inr (Or.inl rfl) | exact Or.inr (Or.inr rfl))) fa_nil)))) (fx_here (fx1_raise xx_BadNumber rfl hr rfl (fa_cons (fe_var (i := 1) rfl (by first | exact Or.inl rfl | exact Or.inr (Or.inl rfl) | exact Or.inr (Or.inr rfl))) fa_nil))) fx_none)))))))
/-! added -/
theorem sc_added : FnScope ["fractions", "found", "one"] ["fractions"] (defScope s_added) := C8.fnScope_by (by decide +kernel)
theorem ok_added {f : Addr} {fd : FuncData} (G : Gt K mg) (F : Fun K "added" "added" s_added f fd) (c_plus : CalD P w K mg base 4 "plus" 2 [] D_plus) (c_need_fractions : CalD P w K mg base 4 "need_fractions" 1 [] D_need_fractions) : FnOk P w K mg base CX0 5 f fd ["fractions"] (spD ⟨K, mg⟩ 1 D_added) :=
  have sc := sc_added
  def_ok (k := 4) F sc (fun cdv A outer s H E hr => (fss_cons (fs_expr (fe_call c_need_fractions hr rfl (fa_cons (fe_var (i := 0) rfl (by first | exact Or.inl rfl | exact Or.inr (Or.inl rfl) | exact Or.inr (Or.inr rfl))) fa_nil)))
  (fss_cons (fs_set (i := 1) sc.nd rfl (by first | exact Or.inl rfl | exact Or.inr rfl) (fe_tup (fa_cons fe_int (fa_cons fe_int fa_nil))))
  (fss_cons (fs_for PassesOwn.never rfl (fi_val (fe_var (i := 0) rfl (by first | exact Or.inl rfl | exact Or.inr (Or.inl rfl) | exact Or.inr (Or.inr rfl)))) (fg_name (i := 2) sc.nd rfl (by first | exact Or.inl rfl | exact Or.inr rfl))
   (fss_one (fs_set (i := 1) sc.nd rfl (by first | exact Or.inl rfl | exact Or.inr rfl) (fe_call c_plus hr rfl (fa_cons (fe_var (i := 1) rfl (by first | exact Or.inl rfl | exact Or.inr (Or.inl rfl) | exact Or.inr (Or.inr rfl))) (fa_cons (fe_var (i := 2) rfl (by first | exact Or.inl rfl | exact Or.inr (Or.inl rfl) | exact Or.inr (Or.inr rfl))) fa_nil))))))
  (fss_one (fs_ret (fe_var (i := 1) rfl (by first | exact Or.inl rfl | exact Or.inr (Or.inl rfl) | exact Or.inr (Or.inr rfl)))))))))
theorem okx_added {f : Addr} {fd : FuncData} (G : Gt K mg) (F : Fun K "added" "added" s_added f fd) (xc_need_fractions : XalD P w K mg base 4 "need_fractions" 1 [] X_need_fractions) : FnOk P w K mg base (L2.CX P w) 5 f fd ["fractions"] (spX ⟨K, mg⟩ 1 X_added) :=
  have sc := sc_added
  xdef_ok (k := 4) F sc (fun cdv A outer s H E hr => (fx_here (fx1_expr (fxe_call xc_need_fractions hr rfl (fa_cons (fe_var (i := 0) rfl (by first | exact Or.inl rfl | exact Or.inr (Or.inl rfl) | exact Or.inr (Or.inr rfl))) fa_nil)))))
/-! lam#0 -/
def l_0 : LamSyn := ⟨("_law_lists_right" : Str) ++ ".<locals>." ++ "<lambda>", laA (nE (nE (sE (nS (defBody s_law_lists_right) 2)) 0) 1), laB (nE (nE (sE (nS (defBody s_law_lists_right) 2)) 0) 1), laS (nE (nE (sE (nS (defBody s_law_lists_right) 2)) 0) 1), ["_law_some"]⟩
theorem ok_lam_0 (G : Gt K mg) (xc_added : XalD P w K mg base 5 "added" 1 [] X_added) (c_added : CalD P w K mg base 5 "added" 1 [] D_added) : LamRun P w K mg base 6 l_0 (denE 1 g_lam_0) :=
  lam_ok (k := 5) (lamN_by (by decide +kernel)) (fun _ _ _ _ => rfl) (fun cl f c A outer s H E hr => (fe_call c_added hr rfl (fa_cons (fe_var (i := 0) rfl (by first | exact Or.inl rfl | exact Or.inr (Or.inl rfl) | exact Or.inr (Or.inr rfl))) fa_nil)))
theorem okx_lam_0 (G : Gt K mg) (xc_added : XalD P w K mg base 5 "added" 1 [] X_added) (c_added : CalD P w K mg base 5 "added" 1 [] D_added) : LamRunX P w K mg base 6 l_0 (denEX 1 x_lam_0) :=
  lamX_ok (k := 5) (lamN_by (by decide +kernel)) (fun _ _ _ _ => rfl) (fun cl f c A outer s H E hr => (fxe_call xc_added hr rfl (fa_cons (fe_var (i := 0) rfl (by first | exact Or.inl rfl | exact Or.inr (Or.inl rfl) | exact Or.inr (Or.inr rfl))) fa_nil)))
/-! times -/
theorem sc_times : FnScope ["one", "other"] ["one", "other"] (defScope s_times) := C8.fnScope_by (by decide +kernel)
theorem ok_times {f : Addr} {fd : FuncData} (G : Gt K mg) (F : Fun K "times" "times" s_times f fd) (c_divided : CalD P w K mg base 3 "divided" 2 [] D_divided) : FnOk P w K mg base CX0 4 f fd ["one", "other"] (spD ⟨K, mg⟩ 2 D_times) :=
  have sc := sc_times
  def_ok (k := 3) F sc (fun cdv A outer s H E hr => (fss_one (fs_ret (fe_call c_divided hr rfl (fa_cons (fe_op opD_mul (fe_ix ixD_ok (fe_var (i := 0) rfl (by first | exact Or.inl rfl | exact Or.inr (Or.inl rfl) | exact Or.inr (Or.inr rfl))) fe_int (fun _ _ => rfl)) (fe_ix ixD_ok (fe_var (i := 1) rfl (by first | exact Or.inl rfl | exact Or.inr (Or.inl rfl) | exact Or.inr (Or.inr rfl))) fe_int (fun _ _ => rfl))) (fa_cons (fe_op opD_mul (fe_ix ixD_ok (fe_var (i := 0) rfl (by first | exact Or.inl rfl | exact Or.inr (Or.inl rfl) | exact Or.inr (Or.inr rfl))) fe_int (fun _ _ => rfl)) (fe_ix ixD_ok (fe_var (i := 1) rfl (by first | exact Or.inl rfl | exact Or.inr (Or.inl rfl) | exact Or.inr (Or.inr rfl))) fe_int (fun _ _ => rfl))) fa_nil))))))
/-! multiplied -/
theorem sc_multiplied : FnScope ["fractions", "found", "one"] ["fractions"] (defScope s_multiplied) := C8.fnScope_by (by decide +kernel)
theorem ok_multiplied {f : Addr} {fd : FuncData} (G : Gt K mg) (F : Fun K "multiplied" "multiplied" s_multiplied f fd) (c_times : CalD P w K mg base 4 "times" 2 [] D_times) (c_need_fractions : CalD P w K mg base 4 "need_fractions" 1 [] D_need_fractions) : FnOk P w K mg base CX0 5 f fd ["fractions"] (spD ⟨K, mg⟩ 1 D_multiplied) :=
  have sc := sc_multiplied
  def_ok (k := 4) F sc (fun cdv A outer s H E hr => (fss_cons (fs_expr (fe_call c_need_fractions hr rfl (fa_cons (fe_var (i := 0) rfl (by first | exact Or.inl rfl | exact Or.inr (Or.inl rfl) | exact Or.inr (Or.inr rfl))) fa_nil)))
  (fss_cons (fs_set (i := 1) sc.nd rfl (by first | exact Or.inl rfl | exact Or.inr rfl) (fe_tup (fa_cons fe_int (fa_cons fe_int fa_nil))))
  (fss_cons (fs_for PassesOwn.never rfl (fi_val (fe_var (i := 0) rfl (by first | exact Or.inl rfl | exact Or.inr (Or.inl rfl) | exact Or.inr (Or.inr rfl)))) (fg_name (i := 2) sc.nd rfl (by first | exact Or.inl rfl | exact Or.inr rfl))
   (fss_one (fs_set (i := 1) sc.nd rfl (by first | exact Or.inl rfl | exact Or.inr rfl) (fe_call c_times hr rfl (fa_cons (fe_var (i := 1) rfl (by first | exact Or.inl rfl | exact Or.inr (Or.inl rfl) | exact Or.inr (Or.inr rfl))) (fa_cons (fe_var (i := 2) rfl (by first | exact Or.inl rfl | exact Or.inr (Or.inl rfl) | exact Or.inr (Or.inr rfl))) fa_nil))))))
  (fss_one (fs_ret (fe_var (i := 1) rfl (by first | exact Or.inl rfl | exact Or.inr (Or.inl rfl) | exact Or.inr (Or.inr rfl)))))))))
theorem okx_multiplied {f : Addr} {fd : FuncData} (G : Gt K mg) (F : Fun K "multiplied" "multiplied" s_multiplied f fd) (xc_need_fractions : XalD P w K mg base 4 "need_fractions" 1 [] X_need_fractions) : FnOk P w K mg base (L2.CX P w) 5 f fd ["fractions"] (spX ⟨K, mg⟩ 1 X_multiplied) :=
  have sc := sc_multiplied
  xdef_ok (k := 4) F sc (fun cdv A outer s H E hr => (fx_here (fx1_expr (fxe_call xc_need_fractions hr rfl (fa_cons (fe_var (i := 0) rfl (by first | exact Or.inl rfl | exact Or.inr (Or.inl rfl) | exact Or.inr (Or.inr rfl))) fa_nil)))))
/-! lam#1 -/
def l_1 : LamSyn := ⟨("_law_lists_right" : Str) ++ ".<locals>." ++ "<lambda>", laA (nE (nE (sE (nS (defBody s_law_lists_right) 3)) 1) 1), laB (nE (nE (sE (nS (defBody s_law_lists_right) 3)) 1) 1), laS (nE (nE (sE (nS (defBody s_law_lists_right) 3)) 1) 1), ["_law_some"]⟩
theorem ok_lam_1 (G : Gt K mg) (xc_multiplied : XalD P w K mg base 5 "multiplied" 1 [] X_multiplied) (c_multiplied : CalD P w K mg base 5 "multiplied" 1 [] D_multiplied) : LamRun P w K mg base 6 l_1 (denE 1 g_lam_1) :=
  lam_ok (k := 5) (lamN_by (by decide +kernel)) (fun _ _ _ _ => rfl) (fun cl f c A outer s H E hr => (fe_call c_multiplied hr rfl (fa_cons (fe_var (i := 0) rfl (by first | exact Or.inl rfl | exact Or.inr (Or.inl rfl) | exact Or.inr (Or.inr rfl))) fa_nil)))
theorem okx_lam_1 (G : Gt K mg) (xc_multiplied : XalD P w K mg base 5 "multiplied" 1 [] X_multiplied) (c_multiplied : CalD P w K mg base 5 "multiplied" 1 [] D_multiplied) : LamRunX P w K mg base 6 l_1 (denEX 1 x_lam_1) :=
  lamX_ok (k := 5) (lamN_by (by decide +kernel)) (fun _ _ _ _ => rfl) (fun cl f c A outer s H E hr => (fxe_call xc_multiplied hr rfl (fa_cons (fe_var (i := 0) rfl (by first | exact Or.inl rfl | exact Or.inr (Or.inl rfl) | exact Or.inr (Or.inr rfl))) fa_nil)))
/-! lam#2 -/
def l_2 : LamSyn := ⟨("_law_lists_right" : Str) ++ ".<locals>." ++ "<lambda>", laA (nE (nE (sE (nS (defBody s_law_lists_right) 4)) 1) 1), laB (nE (nE (sE (nS (defBody s_law_lists_right) 4)) 1) 1), laS (nE (nE (sE (nS (defBody s_law_lists_right) 4)) 1) 1), ["_law_some"]⟩
theorem ok_lam_2 (G : Gt K mg) (xkw_added_fractions : XkwD P w K mg base 5 "added" 1 ["fractions"] [0] X_added) (c_cw_added_fractions : CkwD P w K mg base 5 "added" 1 ["fractions"] [0] D_added) : LamRun P w K mg base 6 l_2 (denE 1 g_lam_2) :=
  lam_ok (k := 5) (lamN_by (by decide +kernel)) (fun _ _ _ _ => rfl) (fun cl f c A outer s H E hr => (fe_callKw c_cw_added_fractions hr rfl (fk_cons (fe_ty bD_tup rfl G.n_tuple bo_tuple (fa_cons (fe_var (i := 0) rfl (by first | exact Or.inl rfl | exact Or.inr (Or.inl rfl) | exact Or.inr (Or.inr rfl))) fa_nil)) fk_nil)))
theorem okx_lam_2 (G : Gt K mg) (xkw_added_fractions : XkwD P w K mg base 5 "added" 1 ["fractions"] [0] X_added) (c_cw_added_fractions : CkwD P w K mg base 5 "added" 1 ["fractions"] [0] D_added) : LamRunX P w K mg base 6 l_2 (denEX 1 x_lam_2) :=
  lamX_ok (k := 5) (lamN_by (by decide +kernel)) (fun _ _ _ _ => rfl) (fun cl f c A outer s H E hr => (fxe_callKw xkw_added_fractions hr rfl (fk_cons (fe_ty bD_tup rfl G.n_tuple bo_tuple (fa_cons (fe_var (i := 0) rfl (by first | exact Or.inl rfl | exact Or.inr (Or.inl rfl) | exact Or.inr (Or.inr rfl))) fa_nil)) fk_nil)))
/-! lam#3 -/
def l_3 : LamSyn := ⟨("_law_lists_right" : Str) ++ ".<locals>." ++ "<lambda>", laA (nE (nE (sE (nS (defBody s_law_lists_right) 5)) 1) 1), laB (nE (nE (sE (nS (defBody s_law_lists_right) 5)) 1) 1), laS (nE (nE (sE (nS (defBody s_law_lists_right) 5)) 1) 1), ["_law_some"]⟩
theorem ok_lam_3 (G : Gt K mg) (xkw_multiplied_fractions : XkwD P w K mg base 5 "multiplied" 1 ["fractions"] [0] X_multiplied) (c_cw_multiplied_fractions : CkwD P w K mg base 5 "multiplied" 1 ["fractions"] [0] D_multiplied) : LamRun P w K mg base 6 l_3 (denE 1 g_lam_3) :=
  lam_ok (k := 5) (lamN_by (by decide +kernel)) (fun _ _ _ _ => rfl) (fun cl f c A outer s H E hr => (fe_callKw c_cw_multiplied_fractions hr rfl (fk_cons (fe_ty bD_tup rfl G.n_tuple bo_tuple (fa_cons (fe_var (i := 0) rfl (by first | exact Or.inl rfl | exact Or.inr (Or.inl rfl) | exact Or.inr (Or.inr rfl))) fa_nil)) fk_nil)))
theorem okx_lam_3 (G : Gt K mg) (xkw_multiplied_fractions : XkwD P w K mg base 5 "multiplied" 1 ["fractions"] [0] X_multiplied) (c_cw_multiplied_fractions : CkwD P w K mg base 5 "multiplied" 1 ["fractions"] [0] D_multiplied) : LamRunX P w K mg base 6 l_3 (denEX 1 x_lam_3) :=
  lamX_ok (k := 5) (lamN_by (by decide +kernel)) (fun _ _ _ _ => rfl) (fun cl f c A outer s H E hr => (fxe_callKw xkw_multiplied_fractions hr rfl (fk_cons (fe_ty bD_tup rfl G.n_tuple bo_tuple (fa_cons (fe_var (i := 0) rfl (by first | exact Or.inl rfl | exact Or.inr (Or.inl rfl) | exact Or.inr (Or.inr rfl))) fa_nil)) fk_nil)))
/-! fraction -/
theorem sc_fraction : FnScope ["top", "bottom"] ["top", "bottom"] (defScope s_fraction) := C8.fnScope_by (by decide +kernel)
theorem ok_fraction {f : Addr} {fd : FuncData} {dvs : List V} {kws : List (Str × V)} (G : Gt K mg) (F : FunD K "fraction" "fraction" (defArgs s_fraction) (defBody s_fraction) (defScope s_fraction) dvs kws f fd) (c_divided : CalD P w K mg base 3 "divided" 2 [] D_divided) (c_is_number : CalD P w K mg base 2 "is_number" 1 [] D_is_number) : FnOk P w K mg base CX0 4 f fd ["top", "bottom"] (spD ⟨K, mg⟩ 2 D_fraction) :=
  have sc := sc_fraction
  def_okD (k := 3) F sc (fun cdv A outer s H E hr => (fss_cons (fs_if (ft_not (ft_val (fe_call c_is_number hr rfl (fa_cons (fe_var (i := 0) rfl (by first | exact Or.inl rfl | exact Or.inr (Or.inl rfl) | exact Or.inr (Or.inr rfl))) fa_nil)))) (fss_one fs_never) fss_nil)
  (fss_cons (fs_if (ft_w (fw_or (ft_not (ft_val (fe_call c_is_number hr rfl (fa_cons (fe_var (i := 1) rfl (by first | exact Or.inl rfl | exact Or.inr (Or.inl rfl) | exact Or.inr (Or.inr rfl))) fa_nil)))) (fw_or1 (FC.ft (fc_data opD_lt (fe_var (i := 1) rfl (by first | exact Or.inl rfl | exact Or.inr (Or.inl rfl) | exact Or.inr (Or.inr rfl))) fe_int rfl))))) (fss_one fs_never) fss_nil)
  (fss_one (fs_ret (fe_call c_divided hr rfl (fa_cons (fe_var (i := 0) rfl (by first | exact Or.inl rfl | exact Or.inr (Or.inl rfl) | exact Or.inr (Or.inr rfl))) (fa_cons (fe_var (i := 1) rfl (by first | exact Or.inl rfl | exact Or.inr (Or.inl rfl) | exact Or.inr (Or.inr rfl))) fa_nil))))))))
theorem okx_fraction {f : Addr} {fd : FuncData} {dvs : List V} {kws : List (Str × V)} (G : Gt K mg) (F : FunD K "fraction" "fraction" (defArgs s_fraction) (defBody s_fraction) (defScope s_fraction) dvs kws f fd) (xx_BadNumber : XcD P w K mg base "BadNumber" "number") (c_is_number : CalD P w K mg base 2 "is_number" 1 [] D_is_number) : FnOk P w K mg base (L2.CX P w) 3 f fd ["top", "bottom"] (spX ⟨K, mg⟩ 2 X_fraction) :=
  have sc := sc_fraction
  xdef_okD (k := 2) F sc (fun cdv A outer s H E hr => (fx_alt (fx_here (fx1_if (ft_not (ft_val (fe_call c_is_number hr rfl (fa_cons (fe_var (i := 0) rfl (by first | exact Or.inl rfl | exact Or.inr (Or.inl rfl) | exact Or.inr (Or.inr rfl))) fa_nil)))) (fx_here (fx1_raise xx_BadNumber rfl hr rfl (fa_cons (fe_var (i := 0) rfl (by first | exact Or.inl rfl | exact Or.inr (Or.inl rfl) | exact Or.inr (Or.inr rfl))) fa_nil))) fx_none)) (fx_later (fs_if (ft_not (ft_val (fe_call c_is_number hr rfl (fa_cons (fe_var (i := 0) rfl (by first | exact Or.inl rfl | exact Or.inr (Or.inl rfl) | exact Or.inr (Or.inr rfl))) fa_nil)))) (fss_one fs_never) fss_nil)
  (fx_here (fx1_if (ft_w (fw_or (ft_not (ft_val (fe_call c_is_number hr rfl (fa_cons (fe_var (i := 1) rfl (by first | exact Or.inl rfl | exact Or.inr (Or.inl rfl) | exact Or.inr (Or.inr rfl))) fa_nil)))) (fw_or1 (FC.ft (fc_data opD_lt (fe_var (i := 1) rfl (by first | exact Or.inl rfl | exact Or.inr (Or.inl rfl) | exact Or.inr (Or.inr rfl))) fe_int rfl))))) (fx_here (fx1_raise xx_BadNumber rfl hr rfl (fa_cons (fe_var (i := 1) rfl (by first | exact Or.inl rfl | exact Or.inr (Or.inl rfl) | exact Or.inr (Or.inr rfl))) fa_nil))) fx_none)))))
/-! lam#4 -/
def l_4 : LamSyn := ⟨("law" : Str) ++ ".<locals>." ++ "<lambda>", laA (nE (nE (sE (nS (sB (nS (defBody s_law) 1)) 5)) 0) 1), laB (nE (nE (sE (nS (sB (nS (defBody s_law) 1)) 5)) 0) 1), laS (nE (nE (sE (nS (sB (nS (defBody s_law) 1)) 5)) 0) 1), ["_law_odd_here"]⟩
theorem ok_lam_4 (G : Gt K mg) (xc_fraction : XalD P w K mg base 3 "fraction" 2 [] X_fraction) (c_fraction : CalD P w K mg base 4 "fraction" 2 [] D_fraction) : LamRun P w K mg base 5 l_4 (denE 1 g_lam_4) :=
  lam_ok (k := 4) (lamN_by (by decide +kernel)) (fun _ _ _ _ => rfl) (fun cl f c A outer s H E hr => (fe_call c_fraction hr rfl (fa_cons (fe_var (i := 0) rfl (by first | exact Or.inl rfl | exact Or.inr (Or.inl rfl) | exact Or.inr (Or.inr rfl))) (fa_cons fe_int fa_nil))))
theorem okx_lam_4 (G : Gt K mg) (xc_fraction : XalD P w K mg base 3 "fraction" 2 [] X_fraction) (c_fraction : CalD P w K mg base 4 "fraction" 2 [] D_fraction) : LamRunX P w K mg base 5 l_4 (denEX 1 x_lam_4) :=
  lamX_ok (k := 4) (lamN_by (by decide +kernel)) (fun _ _ _ _ => rfl) (fun cl f c A outer s H E hr => (fxe_call xc_fraction hr rfl (fa_cons (fe_var (i := 0) rfl (by first | exact Or.inl rfl | exact Or.inr (Or.inl rfl) | exact Or.inr (Or.inr rfl))) (fa_cons fe_int fa_nil))))
/-! lam#5 -/
def l_5 : LamSyn := ⟨("law" : Str) ++ ".<locals>." ++ "<lambda>", laA (nE (nE (sE (nS (sB (nS (defBody s_law) 1)) 6)) 1) 1), laB (nE (nE (sE (nS (sB (nS (defBody s_law) 1)) 6)) 1) 1), laS (nE (nE (sE (nS (sB (nS (defBody s_law) 1)) 6)) 1) 1), ["_law_odd_here"]⟩
theorem ok_lam_5 (G : Gt K mg) (xc_fraction : XalD P w K mg base 3 "fraction" 2 [] X_fraction) (c_fraction : CalD P w K mg base 4 "fraction" 2 [] D_fraction) : LamRun P w K mg base 5 l_5 (denE 1 g_lam_5) :=
  lam_ok (k := 4) (lamN_by (by decide +kernel)) (fun _ _ _ _ => rfl) (fun cl f c A outer s H E hr => (fe_call c_fraction hr rfl (fa_cons fe_int (fa_cons (fe_var (i := 0) rfl (by first | exact Or.inl rfl | exact Or.inr (Or.inl rfl) | exact Or.inr (Or.inr rfl))) fa_nil))))
theorem okx_lam_5 (G : Gt K mg) (xc_fraction : XalD P w K mg base 3 "fraction" 2 [] X_fraction) (c_fraction : CalD P w K mg base 4 "fraction" 2 [] D_fraction) : LamRunX P w K mg base 5 l_5 (denEX 1 x_lam_5) :=
  lamX_ok (k := 4) (lamN_by (by decide +kernel)) (fun _ _ _ _ => rfl) (fun cl f c A outer s H E hr => (fxe_call xc_fraction hr rfl (fa_cons fe_int (fa_cons (fe_var (i := 0) rfl (by first | exact Or.inl rfl | exact Or.inr (Or.inl rfl) | exact Or.inr (Or.inr rfl))) fa_nil))))
/-! lam#6 -/
def l_6 : LamSyn := ⟨("law" : Str) ++ ".<locals>." ++ "<lambda>", laA (nE (nE (sE (nS (sB (nS (defBody s_law) 1)) 16)) 0) 1), laB (nE (nE (sE (nS (sB (nS (defBody s_law) 1)) 16)) 0) 1), laS (nE (nE (sE (nS (sB (nS (defBody s_law) 1)) 16)) 0) 1), ["_law_none"]⟩
theorem ok_lam_6 (G : Gt K mg) (xc_added : XalD P w K mg base 5 "added" 1 [] X_added) (c_added : CalD P w K mg base 5 "added" 1 [] D_added) : LamRun P w K mg base 6 l_6 (denE 1 g_lam_6) :=
  lam_ok (k := 5) (lamN_by (by decide +kernel)) (fun _ _ _ _ => rfl) (fun cl f c A outer s H E hr => (fe_call c_added hr rfl (fa_cons (fe_var (i := 0) rfl (by first | exact Or.inl rfl | exact Or.inr (Or.inl rfl) | exact Or.inr (Or.inr rfl))) fa_nil)))
theorem okx_lam_6 (G : Gt K mg) (xc_added : XalD P w K mg base 5 "added" 1 [] X_added) (c_added : CalD P w K mg base 5 "added" 1 [] D_added) : LamRunX P w K mg base 6 l_6 (denEX 1 x_lam_6) :=
  lamX_ok (k := 5) (lamN_by (by decide +kernel)) (fun _ _ _ _ => rfl) (fun cl f c A outer s H E hr => (fxe_call xc_added hr rfl (fa_cons (fe_var (i := 0) rfl (by first | exact Or.inl rfl | exact Or.inr (Or.inl rfl) | exact Or.inr (Or.inr rfl))) fa_nil)))
/-! lam#7 -/
def l_7 : LamSyn := ⟨("law" : Str) ++ ".<locals>." ++ "<lambda>", laA (nE (nE (sE (nS (sB (nS (defBody s_law) 1)) 17)) 1) 1), laB (nE (nE (sE (nS (sB (nS (defBody s_law) 1)) 17)) 1) 1), laS (nE (nE (sE (nS (sB (nS (defBody s_law) 1)) 17)) 1) 1), ["_law_none"]⟩
theorem ok_lam_7 (G : Gt K mg) (xc_multiplied : XalD P w K mg base 5 "multiplied" 1 [] X_multiplied) (c_multiplied : CalD P w K mg base 5 "multiplied" 1 [] D_multiplied) : LamRun P w K mg base 6 l_7 (denE 1 g_lam_7) :=
  lam_ok (k := 5) (lamN_by (by decide +kernel)) (fun _ _ _ _ => rfl) (fun cl f c A outer s H E hr => (fe_call c_multiplied hr rfl (fa_cons (fe_var (i := 0) rfl (by first | exact Or.inl rfl | exact Or.inr (Or.inl rfl) | exact Or.inr (Or.inr rfl))) fa_nil)))
theorem okx_lam_7 (G : Gt K mg) (xc_multiplied : XalD P w K mg base 5 "multiplied" 1 [] X_multiplied) (c_multiplied : CalD P w K mg base 5 "multiplied" 1 [] D_multiplied) : LamRunX P w K mg base 6 l_7 (denEX 1 x_lam_7) :=
  lamX_ok (k := 5) (lamN_by (by decide +kernel)) (fun _ _ _ _ => rfl) (fun cl f c A outer s H E hr => (fxe_call xc_multiplied hr rfl (fa_cons (fe_var (i := 0) rfl (by first | exact Or.inl rfl | exact Or.inr (Or.inl rfl) | exact Or.inr (Or.inr rfl))) fa_nil)))
/-! lam#8 -/
def l_8 : LamSyn := ⟨("law" : Str) ++ ".<locals>." ++ "<lambda>", laA (nE (nE (nE (sE (nS (sB (nS (defBody s_law) 1)) 2)) 0) 1) 1), laB (nE (nE (nE (sE (nS (sB (nS (defBody s_law) 1)) 2)) 0) 1) 1), laS (nE (nE (nE (sE (nS (sB (nS (defBody s_law) 1)) 2)) 0) 1) 1), ["_law_one", "_law_other"]⟩
theorem ok_lam_8 (G : Gt K mg) (xc_fraction : XalD P w K mg base 3 "fraction" 2 [] X_fraction) (c_fraction : CalD P w K mg base 4 "fraction" 2 [] D_fraction) : LamRun P w K mg base 5 l_8 (denE 2 g_lam_8) :=
  lam_ok (k := 4) (lamN_by (by decide +kernel)) (fun _ _ _ _ => rfl) (fun cl f c A outer s H E hr => (fe_call c_fraction hr rfl (fa_cons (fe_var (i := 0) rfl (by first | exact Or.inl rfl | exact Or.inr (Or.inl rfl) | exact Or.inr (Or.inr rfl))) (fa_cons (fe_var (i := 1) rfl (by first | exact Or.inl rfl | exact Or.inr (Or.inl rfl) | exact Or.inr (Or.inr rfl))) fa_nil))))
theorem okx_lam_8 (G : Gt K mg) (xc_fraction : XalD P w K mg base 3 "fraction" 2 [] X_fraction) (c_fraction : CalD P w K mg base 4 "fraction" 2 [] D_fraction) : LamRunX P w K mg base 5 l_8 (denEX 2 x_lam_8) :=
  lamX_ok (k := 4) (lamN_by (by decide +kernel)) (fun _ _ _ _ => rfl) (fun cl f c A outer s H E hr => (fxe_call xc_fraction hr rfl (fa_cons (fe_var (i := 0) rfl (by first | exact Or.inl rfl | exact Or.inr (Or.inl rfl) | exact Or.inr (Or.inr rfl))) (fa_cons (fe_var (i := 1) rfl (by first | exact Or.inl rfl | exact Or.inr (Or.inl rfl) | exact Or.inr (Or.inr rfl))) fa_nil))))
/-! lam#9 -/
def l_9 : LamSyn := ⟨("law" : Str) ++ ".<locals>." ++ "<lambda>", laA (nE (nE (nE (nE (sE (nS (sB (nS (defBody s_law) 1)) 3)) 0) 0) 1) 1), laB (nE (nE (nE (nE (sE (nS (sB (nS (defBody s_law) 1)) 3)) 0) 0) 1) 1), laS (nE (nE (nE (nE (sE (nS (sB (nS (defBody s_law) 1)) 3)) 0) 0) 1) 1), ["_law_other", "_law_one"]⟩
theorem ok_lam_9 (G : Gt K mg) (xkw_fraction_bottom_top : XkwD P w K mg base 3 "fraction" 2 ["bottom", "top"] [1, 0] X_fraction) (c_cw_fraction_bottom_top : CkwD P w K mg base 4 "fraction" 2 ["bottom", "top"] [1, 0] D_fraction) : LamRun P w K mg base 5 l_9 (denE 2 g_lam_9) :=
  lam_ok (k := 4) (lamN_by (by decide +kernel)) (fun _ _ _ _ => rfl) (fun cl f c A outer s H E hr => (fe_callKw c_cw_fraction_bottom_top hr rfl (fk_cons (fe_var (i := 0) rfl (by first | exact Or.inl rfl | exact Or.inr (Or.inl rfl) | exact Or.inr (Or.inr rfl))) (fk_cons (fe_var (i := 1) rfl (by first | exact Or.inl rfl | exact Or.inr (Or.inl rfl) | exact Or.inr (Or.inr rfl))) fk_nil))))
theorem okx_lam_9 (G : Gt K mg) (xkw_fraction_bottom_top : XkwD P w K mg base 3 "fraction" 2 ["bottom", "top"] [1, 0] X_fraction) (c_cw_fraction_bottom_top : CkwD P w K mg base 4 "fraction" 2 ["bottom", "top"] [1, 0] D_fraction) : LamRunX P w K mg base 5 l_9 (denEX 2 x_lam_9) :=
  lamX_ok (k := 4) (lamN_by (by decide +kernel)) (fun _ _ _ _ => rfl) (fun cl f c A outer s H E hr => (fxe_callKw xkw_fraction_bottom_top hr rfl (fk_cons (fe_var (i := 0) rfl (by first | exact Or.inl rfl | exact Or.inr (Or.inl rfl) | exact Or.inr (Or.inr rfl))) (fk_cons (fe_var (i := 1) rfl (by first | exact Or.inl rfl | exact Or.inr (Or.inl rfl) | exact Or.inr (Or.inr rfl))) fk_nil))))
/-! _law_told -/
theorem sc_law_told : FnScope ["_law_work", "_law_error", "_law_found", "caught"] ["_law_work"] (defScope s_law_told) := C8.fnScope_by (by decide +kernel)
theorem ok_law_told {f : Addr} {fd : FuncData} (G : Gt K mg) (F : Fun K "_law_told" "_law_told" s_law_told f fd) (LT : LamT P w K mg base 6 tabL) (LX : LamTX P w K mg base 6 tabX) : FnOk P w K mg base CX0 7 f fd ["_law_work"] (spD ⟨K, mg⟩ 1 D_law_told) :=
  have sc := sc_law_told
  def_ok (k := 6) F sc (fun cdv A outer s H E hr => (fss_cons (fs_asg (fe_tup (fa_cons fe_non (fa_cons fe_non fa_nil))) (fg_tup rfl (fgs_cons (fg_name (i := 1) sc.nd rfl (by first | exact Or.inl rfl | exact Or.inr rfl)) (fgs_cons (fg_name (i := 2) sc.nd rfl (by first | exact Or.inl rfl | exact Or.inr rfl)) fgs_nil)) (n := 2) (hg := (gCons_len (gCons_len gNil_len)))))
  (fss_cons (fs_try rfl rfl rfl sc.nd (i := 3) rfl rfl (j := 1) rfl (by first | exact Or.inl rfl | exact Or.inr rfl) rfl rfl G.xs_MeanError (fun _ => (fss_one (fs_set (i := 2) sc.nd rfl (by first | exact Or.inl rfl | exact Or.inr rfl) (fe_act LT hr rfl (by first | exact Or.inl rfl | exact Or.inr (Or.inl rfl) | exact Or.inr (Or.inr rfl)))))) (fun _ _ => (fx_here (fx1_set (i := 2) sc.nd rfl (by first | exact Or.inl rfl | exact Or.inr rfl) (fxe_act LX hr rfl (by first | exact Or.inl rfl | exact Or.inr (Or.inl rfl) | exact Or.inr (Or.inr rfl)))))))
  (fss_cons (fs_if (FC.ft (fc_isN (fe_var (i := 1) rfl (by first | exact Or.inl rfl | exact Or.inr (Or.inl rfl) | exact Or.inr (Or.inr rfl))))) (fss_one (fs_ret (fe_tup (fa_cons (fe_var (i := 2) rfl (by first | exact Or.inl rfl | exact Or.inr (Or.inl rfl) | exact Or.inr (Or.inr rfl))) fa_nil)))) fss_nil)
  (fss_one (fs_ret (fe_ifExp (ft_w (fw_and (ft_val (fe_alt (fe_isiC G.i_BadNumber rfl G.n_isinstance rfl (fe_var (i := 1) rfl (by first | exact Or.inl rfl | exact Or.inr (Or.inl rfl) | exact Or.inr (Or.inr rfl)))) (fe_isxC G.xi_BadNumber rfl G.n_isinstance rfl (fe_var (i := 1) rfl (by first | exact Or.inl rfl | exact Or.inr (Or.inl rfl) | exact Or.inr (Or.inr rfl)))))) (fw_and1 (ft_not (ft_val (fe_alt (fe_isiC G.i_NoTable rfl G.n_isinstance rfl (fe_var (i := 1) rfl (by first | exact Or.inl rfl | exact Or.inr (Or.inl rfl) | exact Or.inr (Or.inr rfl)))) (fe_isxC G.xi_NoTable rfl G.n_isinstance rfl (fe_var (i := 1) rfl (by first | exact Or.inl rfl | exact Or.inr (Or.inl rfl) | exact Or.inr (Or.inr rfl)))))))))) (fe_lst (fa_cons (fe_xf G.xf_number (fe_var (i := 1) rfl (by first | exact Or.inl rfl | exact Or.inr (Or.inl rfl) | exact Or.inr (Or.inr rfl)))) fa_nil)) (fe_lst (fa_cons fe_str fa_nil)))))))))
/-! _law_mixed -/
theorem sc_law_mixed : FnScope ["_law_draw", "_law_turn", "_law_found", "_law_prime", "_law_blend", "_law_cell"] ["_law_draw"] (defScope s_law_mixed) := C8.fnScope_by (by decide +kernel)
theorem ok_law_mixed {f : Addr} {fd : FuncData} (G : Gt K mg) (F : Fun K "_law_mixed" "_law_mixed" s_law_mixed f fd) : FnOk P w K mg base CX0 2 f fd ["_law_draw"] (spD ⟨K, mg⟩ 1 D_law_mixed) :=
  have sc := sc_law_mixed
  def_ok (k := 1) F sc (fun cdv A outer s H E hr => (fss_cons (fs_par2 rfl sc.nd (i := 1) (j := 2) rfl rfl (by decide) rfl rfl (fp_cons (fe_op opD_add (fe_drI hr (fe_var (i := 0) rfl (by first | exact Or.inl rfl | exact Or.inr (Or.inl rfl) | exact Or.inr (Or.inr rfl))) v_turn) fe_int) (fp_cons fe_int fp_nil)) rfl)
  (fss_cons (fs_drSet hr (fe_var (i := 0) rfl (by first | exact Or.inl rfl | exact Or.inr (Or.inl rfl) | exact Or.inr (Or.inr rfl))) (fe_var (i := 1) rfl (by first | exact Or.inl rfl | exact Or.inr (Or.inl rfl) | exact Or.inr (Or.inr rfl))) p_turn)
  (fss_cons (fs_for PassesOwn.never rfl (fi_val (fe_lst (fa_cons fe_int (fa_cons fe_int (fa_cons fe_int (fa_cons fe_int fa_nil)))))) (fg_name (i := 3) sc.nd rfl (by first | exact Or.inl rfl | exact Or.inr rfl))
   (fss_cons (fs_set (i := 4) sc.nd rfl (by first | exact Or.inl rfl | exact Or.inr rfl) (fe_op opD_add (fe_op opD_mul fe_int (fe_var (i := 1) rfl (by first | exact Or.inl rfl | exact Or.inr (Or.inl rfl) | exact Or.inr (Or.inr rfl)))) (fe_op opD_fdiv (fe_var (i := 3) rfl (by first | exact Or.inl rfl | exact Or.inr (Or.inl rfl) | exact Or.inr (Or.inr rfl))) fe_int)))
  (fss_cons (fs_for PassesOwn.never rfl (fi_drC hr (fe_var (i := 0) rfl (by first | exact Or.inl rfl | exact Or.inr (Or.inl rfl) | exact Or.inr (Or.inr rfl)))) (fg_name (i := 5) sc.nd rfl (by first | exact Or.inl rfl | exact Or.inr rfl))
   (fss_one (fs_set (i := 4) sc.nd rfl (by first | exact Or.inl rfl | exact Or.inr rfl) (fe_op opD_mod (fe_ty bD_int rfl G.n_int bo_int (fa_cons (fe_op opD_add (fe_op opD_add (fe_op opD_mul (fe_var (i := 4) rfl (by first | exact Or.inl rfl | exact Or.inr (Or.inl rfl) | exact Or.inr (Or.inr rfl))) fe_int) (fe_var (i := 5) rfl (by first | exact Or.inl rfl | exact Or.inr (Or.inl rfl) | exact Or.inr (Or.inr rfl)))) (fe_var (i := 1) rfl (by first | exact Or.inl rfl | exact Or.inr (Or.inl rfl) | exact Or.inr (Or.inr rfl)))) fa_nil)) (fe_var (i := 3) rfl (by first | exact Or.inl rfl | exact Or.inr (Or.inl rfl) | exact Or.inr (Or.inr rfl)))))))
  (fss_one (fs_set (i := 2) sc.nd rfl (by first | exact Or.inl rfl | exact Or.inr rfl) (fe_op opD_add (fe_op opD_mul (fe_var (i := 2) rfl (by first | exact Or.inl rfl | exact Or.inr (Or.inl rfl) | exact Or.inr (Or.inr rfl))) fe_int) (fe_op opD_mod (fe_ty bD_int rfl G.n_int bo_int (fa_cons (fe_op opD_pow (fe_var (i := 4) rfl (by first | exact Or.inl rfl | exact Or.inr (Or.inl rfl) | exact Or.inr (Or.inr rfl))) fe_int) fa_nil)) (fe_var (i := 3) rfl (by first | exact Or.inl rfl | exact Or.inr (Or.inl rfl) | exact Or.inr (Or.inr rfl))))))))))
  (fss_one (fs_ret (fe_var (i := 2) rfl (by first | exact Or.inl rfl | exact Or.inr (Or.inl rfl) | exact Or.inr (Or.inr rfl)))))))))
/-! _law_take -/
theorem sc_law_take : FnScope ["_law_draw", "_law_size", "_law_found"] ["_law_draw", "_law_size"] (defScope s_law_take) := C8.fnScope_by (by decide +kernel)
theorem ok_law_take {f : Addr} {fd : FuncData} (G : Gt K mg) (F : Fun K "_law_take" "_law_take" s_law_take f fd) (c_law_mixed : CalD P w K mg base 2 "_law_mixed" 1 [] D_law_mixed) : FnOk P w K mg base CX0 3 f fd ["_law_draw", "_law_size"] (spD ⟨K, mg⟩ 2 D_law_take) :=
  have sc := sc_law_take
  def_ok (k := 2) F sc (fun cdv A outer s H E hr => (fss_cons (fs_if (FC.ft (fc_data (opD_eq hr) (fe_drI hr (fe_var (i := 0) rfl (by first | exact Or.inl rfl | exact Or.inr (Or.inl rfl) | exact Or.inr (Or.inr rfl))) v_rest) fe_int rfl)) (fss_one (fs_drSet hr (fe_var (i := 0) rfl (by first | exact Or.inl rfl | exact Or.inr (Or.inl rfl) | exact Or.inr (Or.inr rfl))) (fe_ifExp (ft_drWide hr (fe_var (i := 0) rfl (by first | exact Or.inl rfl | exact Or.inr (Or.inl rfl) | exact Or.inr (Or.inr rfl)))) (fe_drPop hr (fe_var (i := 0) rfl (by first | exact Or.inl rfl | exact Or.inr (Or.inl rfl) | exact Or.inr (Or.inr rfl)))) (fe_call c_law_mixed hr rfl (fa_cons (fe_var (i := 0) rfl (by first | exact Or.inl rfl | exact Or.inr (Or.inl rfl) | exact Or.inr (Or.inr rfl))) fa_nil))) p_rest)) fss_nil)
  (fss_cons (fs_set (i := 2) sc.nd rfl (by first | exact Or.inl rfl | exact Or.inr rfl) (fe_op opD_mod (fe_ty bD_int rfl G.n_int bo_int (fa_cons (fe_drI hr (fe_var (i := 0) rfl (by first | exact Or.inl rfl | exact Or.inr (Or.inl rfl) | exact Or.inr (Or.inr rfl))) v_rest) fa_nil)) (fe_var (i := 1) rfl (by first | exact Or.inl rfl | exact Or.inr (Or.inl rfl) | exact Or.inr (Or.inr rfl)))))
  (fss_cons (fs_drSet hr (fe_var (i := 0) rfl (by first | exact Or.inl rfl | exact Or.inr (Or.inl rfl) | exact Or.inr (Or.inr rfl))) (fe_op opD_fdiv (fe_drI hr (fe_var (i := 0) rfl (by first | exact Or.inl rfl | exact Or.inr (Or.inl rfl) | exact Or.inr (Or.inr rfl))) v_rest) (fe_var (i := 1) rfl (by first | exact Or.inl rfl | exact Or.inr (Or.inl rfl) | exact Or.inr (Or.inr rfl)))) p_rest)
  (fss_one (fs_ret (fe_var (i := 2) rfl (by first | exact Or.inl rfl | exact Or.inr (Or.inl rfl) | exact Or.inr (Or.inr rfl)))))))))
/-! _law_pick -/
theorem sc_law_pick : FnScope ["_law_draw", "_law_some"] ["_law_draw", "_law_some"] (defScope s_law_pick) := C8.fnScope_by (by decide +kernel)
theorem ok_law_pick {f : Addr} {fd : FuncData} (G : Gt K mg) (F : Fun K "_law_pick" "_law_pick" s_law_pick f fd) (c_law_take : CalD P w K mg base 3 "_law_take" 2 [] D_law_take) : FnOk P w K mg base CX0 4 f fd ["_law_draw", "_law_some"] (spD ⟨K, mg⟩ 2 D_law_pick) :=
  have sc := sc_law_pick
  def_ok (k := 3) F sc (fun cdv A outer s H E hr => (fss_one (fs_ret (fe_ix ixD_ok (fe_var (i := 1) rfl (by first | exact Or.inl rfl | exact Or.inr (Or.inl rfl) | exact Or.inr (Or.inr rfl))) (fe_call c_law_take hr rfl (fa_cons (fe_var (i := 0) rfl (by first | exact Or.inl rfl | exact Or.inr (Or.inl rfl) | exact Or.inr (Or.inr rfl))) (fa_cons (fe_b bD_len rfl G.n_len bo_len (fa_cons (fe_var (i := 1) rfl (by first | exact Or.inl rfl | exact Or.inr (Or.inl rfl) | exact Or.inr (Or.inr rfl))) fa_nil)) fa_nil))) (fun _ _ => rfl)))))
/-! _law_divided -/
theorem sc_law_divided : FnScope ["_law_top_here", "_law_bottom_here", "_law_one", "_law_other"] ["_law_top_here", "_law_bottom_here"] (defScope s_law_divided) := C8.fnScope_by (by decide +kernel)
theorem ok_law_divided {f : Addr} {fd : FuncData} (G : Gt K mg) (F : Fun K "_law_divided" "_law_divided" s_law_divided f fd) : FnOk P w K mg base CX0 2 f fd ["_law_top_here", "_law_bottom_here"] (spD ⟨K, mg⟩ 2 D_law_divided) :=
  have sc := sc_law_divided
  def_ok (k := 1) F sc (fun cdv A outer s H E hr => (fss_cons (fs_par2 rfl sc.nd (i := 2) (j := 3) rfl rfl (by decide) rfl rfl (fp_cons (fe_b bD_abs rfl G.n_abs bo_abs (fa_cons (fe_ty bD_int rfl G.n_int bo_int (fa_cons (fe_var (i := 0) rfl (by first | exact Or.inl rfl | exact Or.inr (Or.inl rfl) | exact Or.inr (Or.inr rfl))) fa_nil)) fa_nil)) (fp_cons (fe_ty bD_int rfl G.n_int bo_int (fa_cons (fe_var (i := 1) rfl (by first | exact Or.inl rfl | exact Or.inr (Or.inl rfl) | exact Or.inr (Or.inr rfl))) fa_nil)) fp_nil)) rfl)
  (fss_cons (fs_while 1000000 PassesOwn.never (FC.ft (fc_data opD_gt (fe_var (i := 3) rfl (by first | exact Or.inl rfl | exact Or.inr (Or.inl rfl) | exact Or.inr (Or.inr rfl))) fe_int rfl)) (fss_one (fs_par2 rfl sc.nd (i := 2) (j := 3) rfl rfl (by decide) rfl rfl (fp_cons (fe_var (i := 3) rfl (by first | exact Or.inl rfl | exact Or.inr (Or.inl rfl) | exact Or.inr (Or.inr rfl))) (fp_cons (fe_op opD_mod (fe_ty bD_int rfl G.n_int bo_int (fa_cons (fe_var (i := 2) rfl (by first | exact Or.inl rfl | exact Or.inr (Or.inl rfl) | exact Or.inr (Or.inr rfl))) fa_nil)) (fe_var (i := 3) rfl (by first | exact Or.inl rfl | exact Or.inr (Or.inl rfl) | exact Or.inr (Or.inr rfl)))) fp_nil)) rfl)))
  (fss_one (fs_ret (fe_tup (fa_cons (fe_op opD_fdiv (fe_var (i := 0) rfl (by first | exact Or.inl rfl | exact Or.inr (Or.inl rfl) | exact Or.inr (Or.inr rfl))) (fe_var (i := 2) rfl (by first | exact Or.inl rfl | exact Or.inr (Or.inl rfl) | exact Or.inr (Or.inr rfl)))) (fa_cons (fe_op opD_fdiv (fe_var (i := 1) rfl (by first | exact Or.inl rfl | exact Or.inr (Or.inl rfl) | exact Or.inr (Or.inr rfl))) (fe_var (i := 2) rfl (by first | exact Or.inl rfl | exact Or.inr (Or.inl rfl) | exact Or.inr (Or.inr rfl)))) fa_nil))))))))
/-! _law_by -/
theorem sc_law_by : FnScope ["_law_one", "_law_other"] ["_law_one", "_law_other"] (defScope s_law_by) := C8.fnScope_by (by decide +kernel)
theorem ok_law_by {f : Addr} {fd : FuncData} (G : Gt K mg) (F : Fun K "_law_by" "_law_by" s_law_by f fd) (c_law_divided : CalD P w K mg base 2 "_law_divided" 2 [] D_law_divided) : FnOk P w K mg base CX0 3 f fd ["_law_one", "_law_other"] (spD ⟨K, mg⟩ 2 D_law_by) :=
  have sc := sc_law_by
  def_ok (k := 2) F sc (fun cdv A outer s H E hr => (fss_one (fs_ret (fe_call c_law_divided hr rfl (fa_cons (fe_op opD_mul (fe_ix ixD_ok (fe_var (i := 0) rfl (by first | exact Or.inl rfl | exact Or.inr (Or.inl rfl) | exact Or.inr (Or.inr rfl))) fe_int (fun _ _ => rfl)) (fe_ix ixD_ok (fe_var (i := 1) rfl (by first | exact Or.inl rfl | exact Or.inr (Or.inl rfl) | exact Or.inr (Or.inr rfl))) fe_int (fun _ _ => rfl))) (fa_cons (fe_op opD_mul (fe_ix ixD_ok (fe_var (i := 0) rfl (by first | exact Or.inl rfl | exact Or.inr (Or.inl rfl) | exact Or.inr (Or.inr rfl))) fe_int (fun _ _ => rfl)) (fe_ix ixD_ok (fe_var (i := 1) rfl (by first | exact Or.inl rfl | exact Or.inr (Or.inl rfl) | exact Or.inr (Or.inr rfl))) fe_int (fun _ _ => rfl))) fa_nil))))))
/-! _law_plus -/
theorem sc_law_plus : FnScope ["_law_one", "_law_other"] ["_law_one", "_law_other"] (defScope s_law_plus) := C8.fnScope_by (by decide +kernel)
theorem ok_law_plus {f : Addr} {fd : FuncData} (G : Gt K mg) (F : Fun K "_law_plus" "_law_plus" s_law_plus f fd) (c_law_divided : CalD P w K mg base 2 "_law_divided" 2 [] D_law_divided) : FnOk P w K mg base CX0 3 f fd ["_law_one", "_law_other"] (spD ⟨K, mg⟩ 2 D_law_plus) :=
  have sc := sc_law_plus
  def_ok (k := 2) F sc (fun cdv A outer s H E hr => (fss_one (fs_ret (fe_call c_law_divided hr rfl (fa_cons (fe_op opD_add (fe_op opD_mul (fe_ix ixD_ok (fe_var (i := 0) rfl (by first | exact Or.inl rfl | exact Or.inr (Or.inl rfl) | exact Or.inr (Or.inr rfl))) fe_int (fun _ _ => rfl)) (fe_ix ixD_ok (fe_var (i := 1) rfl (by first | exact Or.inl rfl | exact Or.inr (Or.inl rfl) | exact Or.inr (Or.inr rfl))) fe_int (fun _ _ => rfl))) (fe_op opD_mul (fe_ix ixD_ok (fe_var (i := 1) rfl (by first | exact Or.inl rfl | exact Or.inr (Or.inl rfl) | exact Or.inr (Or.inr rfl))) fe_int (fun _ _ => rfl)) (fe_ix ixD_ok (fe_var (i := 0) rfl (by first | exact Or.inl rfl | exact Or.inr (Or.inl rfl) | exact Or.inr (Or.inr rfl))) fe_int (fun _ _ => rfl)))) (fa_cons (fe_op opD_mul (fe_ix ixD_ok (fe_var (i := 0) rfl (by first | exact Or.inl rfl | exact Or.inr (Or.inl rfl) | exact Or.inr (Or.inr rfl))) fe_int (fun _ _ => rfl)) (fe_ix ixD_ok (fe_var (i := 1) rfl (by first | exact Or.inl rfl | exact Or.inr (Or.inl rfl) | exact Or.inr (Or.inr rfl))) fe_int (fun _ _ => rfl))) fa_nil))))))
/-! _law_is_good -/
theorem sc_law_is_good : FnScope ["_law_thing_here", "_law_one"] ["_law_thing_here"] (defScope s_law_is_good) := C8.fnScope_by (by decide +kernel)
theorem ok_law_is_good {f : Addr} {fd : FuncData} (G : Gt K mg) (F : Fun K "_law_is_good" "_law_is_good" s_law_is_good f fd) (c_law_divided : CalD P w K mg base 2 "_law_divided" 2 [] D_law_divided) : FnOk P w K mg base CX0 3 f fd ["_law_thing_here"] (spD ⟨K, mg⟩ 1 D_law_is_good) :=
  have sc := sc_law_is_good
  def_ok (k := 2) F sc (fun cdv A outer s H E hr => (fss_cons (fs_if (ft_w (fw_or (ft_not (ft_val (fe_isi rfl G.n_isinstance (pe_bltn (v := .ty "tuple") rfl G.n_tuple PyProof.Rows.boot_tuple rfl) (.ty _) G.i_tuple (fe_var (i := 0) rfl (by first | exact Or.inl rfl | exact Or.inr (Or.inl rfl) | exact Or.inr (Or.inr rfl)))))) (fw_or1 (FC.ft (fc_data (opD_ne hr) (fe_b bD_len rfl G.n_len bo_len (fa_cons (fe_var (i := 0) rfl (by first | exact Or.inl rfl | exact Or.inr (Or.inl rfl) | exact Or.inr (Or.inr rfl))) fa_nil)) fe_int rfl))))) (fss_one (fs_ret fe_bl)) fss_nil)
  (fss_cons (fs_if (FC.ft (fc_data (opD_ne hr) (fe_lc rfl sc.nd (own := [("_law_one", 1)]) (fi_val (fe_var (i := 0) rfl (by first | exact Or.inl rfl | exact Or.inr (Or.inl rfl) | exact Or.inr (Or.inr rfl)))) (blkOk_by (by show blkC ["_law_thing_here", "_law_one"] (defScope s_law_is_good) _ [("_law_one", 1)] = true; decide +kernel)) (fun _ _ _ _ _ => (fg_name (i := 1) sc.nd rfl (by first | exact Or.inl rfl | exact Or.inr rfl))) (fun _ _ _ _ _ => (fts_one (ft_w (fw_or (ft_not (ft_val (fe_isi rfl G.n_isinstance (pe_bltn (v := .ty "int") rfl G.n_int PyProof.Rows.boot_int rfl) (.ty _) G.i_int (fe_var (i := 1) rfl (by first | exact Or.inl rfl | exact Or.inr (Or.inl rfl) | exact Or.inr (Or.inr rfl)))))) (fw_or1 (ft_val (fe_isi rfl G.n_isinstance (pe_bltn (v := .ty "bool") rfl G.n_bool PyProof.Rows.boot_bool rfl) (.ty _) G.i_bool (fe_var (i := 1) rfl (by first | exact Or.inl rfl | exact Or.inr (Or.inl rfl) | exact Or.inr (Or.inr rfl)))))))))) (fun _ _ _ _ _ => (fe_var (i := 1) rfl (by first | exact Or.inl rfl | exact Or.inr (Or.inl rfl) | exact Or.inr (Or.inr rfl))))) (fe_lst fa_nil) rfl)) (fss_one (fs_ret fe_bl)) fss_nil)
  (fss_one (fs_ret (fe_and (FC.fe (fc_data opD_ge (fe_ix ixD_ok (fe_var (i := 0) rfl (by first | exact Or.inl rfl | exact Or.inr (Or.inl rfl) | exact Or.inr (Or.inr rfl))) fe_int (fun _ _ => rfl)) fe_int rfl)) (fe_one (FC.fe (fc_data (opD_eq hr) (fe_call c_law_divided hr rfl (fa_cons (fe_ix ixD_ok (fe_var (i := 0) rfl (by first | exact Or.inl rfl | exact Or.inr (Or.inl rfl) | exact Or.inr (Or.inr rfl))) fe_int (fun _ _ => rfl)) (fa_cons (fe_ix ixD_ok (fe_var (i := 0) rfl (by first | exact Or.inl rfl | exact Or.inr (Or.inl rfl) | exact Or.inr (Or.inr rfl))) fe_int (fun _ _ => rfl)) fa_nil))) (fe_var (i := 0) rfl (by first | exact Or.inl rfl | exact Or.inr (Or.inl rfl) | exact Or.inr (Or.inr rfl))) rfl)))))))))
/-! _law_lists_right -/
theorem sc_law_lists_right : FnScope ["_law_draw", "_law_some", "_law_wrong", "_law_total", "_law_product", "_law_kept", "_law_one", "_law_each", "_law_told_here", "_law_due"] ["_law_draw", "_law_some"] (defScope s_law_lists_right) := C8.fnScope_by (by decide +kernel)
theorem ok_law_lists_right {f : Addr} {fd : FuncData} (G : Gt K mg) (F : Fun K "_law_lists_right" "_law_lists_right" s_law_lists_right f fd) (hS : SmB base) (c_law_told : CalD P w K mg base 7 "_law_told" 1 [] D_law_told) (c_law_by : CalD P w K mg base 3 "_law_by" 2 [] D_law_by) (c_law_plus : CalD P w K mg base 3 "_law_plus" 2 [] D_law_plus) (c_law_is_good : CalD P w K mg base 3 "_law_is_good" 1 [] D_law_is_good) (hL_3 : Tabl.L 3 = some l_3) (hL_2 : Tabl.L 2 = some l_2) (hL_1 : Tabl.L 1 = some l_1) (hL_0 : Tabl.L 0 = some l_0) {ca pa : Addr} (TB : LamX.TabB base mg ca pa) (hcd : ∀ oc od kV doc pm an cdv ct osl, K.lookup f = some ⟨oc, od, .func (PySem.W.fnOf "_law_lists_right" "_law_lists_right" (defArgs s_law_lists_right) (defBody s_law_lists_right) (defScope s_law_lists_right) .none kV doc pm an cdv ct), osl⟩ → cdv = .ref ca) (hmT : (pa, ("_law_lists_right" : Str) ++ ".<locals>." ++ "<lambda>") ∈ Tabl.T) (hu : ∀ p ∈ Tabl.T, p.1 = pa → p.2 = ("_law_lists_right" : Str) ++ ".<locals>." ++ "<lambda>") : LG.FnG P w K mg base 8 f fd ["_law_draw", "_law_some"] (spD ⟨K, mg⟩ 2 D_law_lists_right) :=
  have sc := sc_law_lists_right
  def_okGT (k := 7) (ca := ca) F sc hcd (fun A outer s H E hr hG => have hcode : _ := rfl; (fss_cons (fs_asg (fe_tup (fa_cons (fe_lc rfl sc.nd (own := [("_law_one", 6)]) (fi_val (fe_var (i := 1) rfl (by first | exact Or.inl rfl | exact Or.inr (Or.inl rfl) | exact Or.inr (Or.inr rfl)))) (blkOk_by (by show blkC ["_law_draw", "_law_some", "_law_wrong", "_law_total", "_law_product", "_law_kept", "_law_one", "_law_each", "_law_told_here", "_law_due"] (defScope s_law_lists_right) _ [("_law_one", 6)] = true; decide +kernel)) (fun _ _ _ _ _ => (fg_name (i := 6) sc.nd rfl (by first | exact Or.inl rfl | exact Or.inr rfl))) (fun _ _ _ _ _ => (fts_one (ft_not (ft_val (fe_call c_law_is_good hr rfl (fa_cons (fe_var (i := 6) rfl (by first | exact Or.inl rfl | exact Or.inr (Or.inl rfl) | exact Or.inr (Or.inr rfl))) fa_nil)))))) (fun _ _ _ _ _ => (fe_var (i := 6) rfl (by first | exact Or.inl rfl | exact Or.inr (Or.inl rfl) | exact Or.inr (Or.inr rfl))))) (fa_cons (fe_tup (fa_cons fe_int (fa_cons fe_int fa_nil))) (fa_cons (fe_tup (fa_cons fe_int (fa_cons fe_int fa_nil))) (fa_cons (fe_b (bD_reprW hS hr hG) rfl G.n_repr bo_repr (fa_cons (fe_var (i := 1) rfl (by first | exact Or.inl rfl | exact Or.inr (Or.inl rfl) | exact Or.inr (Or.inr rfl))) fa_nil)) fa_nil))))) (fg_tup rfl (fgs_cons (fg_name (i := 2) sc.nd rfl (by first | exact Or.inl rfl | exact Or.inr rfl)) (fgs_cons (fg_name (i := 3) sc.nd rfl (by first | exact Or.inl rfl | exact Or.inr rfl)) (fgs_cons (fg_name (i := 4) sc.nd rfl (by first | exact Or.inl rfl | exact Or.inr rfl)) (fgs_cons (fg_name (i := 5) sc.nd rfl (by first | exact Or.inl rfl | exact Or.inr rfl)) fgs_nil)))) (n := 4) (hg := (gCons_len (gCons_len (gCons_len (gCons_len gNil_len)))))))
  (fss_cons (fs_for PassesOwn.never rfl (fi_val (fe_lc rfl sc.nd (own := [("_law_each", 7)]) (fi_val (fe_var (i := 1) rfl (by first | exact Or.inl rfl | exact Or.inr (Or.inl rfl) | exact Or.inr (Or.inr rfl)))) (blkOk_by (by show blkC ["_law_draw", "_law_some", "_law_wrong", "_law_total", "_law_product", "_law_kept", "_law_one", "_law_each", "_law_told_here", "_law_due"] (defScope s_law_lists_right) _ [("_law_each", 7)] = true; decide +kernel)) (fun _ _ _ _ _ => (fg_name (i := 7) sc.nd rfl (by first | exact Or.inl rfl | exact Or.inr rfl))) (fun _ _ _ _ _ => (fts_one (FC.ft (fc_data (opD_eq0 hr) (fe_var (i := 2) rfl (by first | exact Or.inl rfl | exact Or.inr (Or.inl rfl) | exact Or.inr (Or.inr rfl))) (fe_lst fa_nil) rfl)))) (fun _ _ _ _ _ => (fe_var (i := 7) rfl (by first | exact Or.inl rfl | exact Or.inr (Or.inl rfl) | exact Or.inr (Or.inr rfl)))))) (fg_name (i := 6) sc.nd rfl (by first | exact Or.inl rfl | exact Or.inr rfl))
   (fss_one (fs_par2 rfl sc.nd (i := 3) (j := 4) rfl rfl (by decide) rfl rfl (fp_cons (fe_call c_law_plus hr rfl (fa_cons (fe_var (i := 3) rfl (by first | exact Or.inl rfl | exact Or.inr (Or.inl rfl) | exact Or.inr (Or.inr rfl))) (fa_cons (fe_var (i := 6) rfl (by first | exact Or.inl rfl | exact Or.inr (Or.inl rfl) | exact Or.inr (Or.inr rfl))) fa_nil))) (fp_cons (fe_call c_law_by hr rfl (fa_cons (fe_var (i := 4) rfl (by first | exact Or.inl rfl | exact Or.inr (Or.inl rfl) | exact Or.inr (Or.inr rfl))) (fa_cons (fe_var (i := 6) rfl (by first | exact Or.inl rfl | exact Or.inr (Or.inl rfl) | exact Or.inr (Or.inr rfl))) fa_nil))) fp_nil)) rfl)))
  (fss_cons (fs_set (i := 8) sc.nd rfl (by first | exact Or.inl rfl | exact Or.inr rfl) (fe_lst (fa_cons (fe_lamcall (c_law_told.r hr) rfl ⟨hL_0, rfl, rfl, rfl, rfl, rfl, (by decide +kernel), LamX.lamS_by (by show LamX.lamSB (defScope s_law_lists_right) _ = true; decide +kernel), rfl, fun _ => rfl⟩ TB hcode hmT hu fa_nil) fa_nil)))
  (fss_cons (fs_expr (fe_append (pv 8) (fe_lamcall (c_law_told.r hr) rfl ⟨hL_1, rfl, rfl, rfl, rfl, rfl, (by decide +kernel), LamX.lamS_by (by show LamX.lamSB (defScope s_law_lists_right) _ = true; decide +kernel), rfl, fun _ => rfl⟩ TB hcode hmT hu fa_nil)))
  (fss_cons (fs_expr (fe_append (pv 8) (fe_lamcall (c_law_told.r hr) rfl ⟨hL_2, rfl, rfl, rfl, rfl, rfl, (by decide +kernel), LamX.lamS_by (by show LamX.lamSB (defScope s_law_lists_right) _ = true; decide +kernel), rfl, fun _ => rfl⟩ TB hcode hmT hu fa_nil)))
  (fss_cons (fs_expr (fe_append (pv 8) (fe_lamcall (c_law_told.r hr) rfl ⟨hL_3, rfl, rfl, rfl, rfl, rfl, (by decide +kernel), LamX.lamS_by (by show LamX.lamSB (defScope s_law_lists_right) _ = true; decide +kernel), rfl, fun _ => rfl⟩ TB hcode hmT hu fa_nil)))
  (fss_cons (fs_set (i := 9) sc.nd rfl (by first | exact Or.inl rfl | exact Or.inr rfl) (fe_ifExp (FC.ft (fc_data (opD_eq0 hr) (fe_var (i := 2) rfl (by first | exact Or.inl rfl | exact Or.inr (Or.inl rfl) | exact Or.inr (Or.inr rfl))) (fe_lst fa_nil) rfl)) (fe_lst (fa_cons (fe_tup (fa_cons (fe_var (i := 3) rfl (by first | exact Or.inl rfl | exact Or.inr (Or.inl rfl) | exact Or.inr (Or.inr rfl))) fa_nil)) (fa_cons (fe_tup (fa_cons (fe_var (i := 4) rfl (by first | exact Or.inl rfl | exact Or.inr (Or.inl rfl) | exact Or.inr (Or.inr rfl))) fa_nil)) (fa_cons (fe_tup (fa_cons (fe_var (i := 3) rfl (by first | exact Or.inl rfl | exact Or.inr (Or.inl rfl) | exact Or.inr (Or.inr rfl))) fa_nil)) (fa_cons (fe_tup (fa_cons (fe_var (i := 4) rfl (by first | exact Or.inl rfl | exact Or.inr (Or.inl rfl) | exact Or.inr (Or.inr rfl))) fa_nil)) fa_nil))))) (fe_op opD_rep (fe_lst (fa_cons (fe_lst (fa_cons (fe_ix ixD_ok (fe_var (i := 2) rfl (by first | exact Or.inl rfl | exact Or.inr (Or.inl rfl) | exact Or.inr (Or.inr rfl))) fe_int (fun _ _ => rfl)) fa_nil)) fa_nil)) fe_int)))
  (fss_one (fs_ret (fe_and (FC.fe (fc_data (opD_eq hr) (fe_b (bD_reprW hS hr hG) rfl G.n_repr bo_repr (fa_cons (fe_var (i := 8) rfl (by first | exact Or.inl rfl | exact Or.inr (Or.inl rfl) | exact Or.inr (Or.inr rfl))) fa_nil)) (fe_b (bD_reprW hS hr hG) rfl G.n_repr bo_repr (fa_cons (fe_var (i := 9) rfl (by first | exact Or.inl rfl | exact Or.inr (Or.inl rfl) | exact Or.inr (Or.inr rfl))) fa_nil)) rfl)) (fe_one (FC.fe (fc_data (opD_eq hr) (fe_b (bD_reprW hS hr hG) rfl G.n_repr bo_repr (fa_cons (fe_var (i := 1) rfl (by first | exact Or.inl rfl | exact Or.inr (Or.inl rfl) | exact Or.inr (Or.inr rfl))) fa_nil)) (fe_var (i := 5) rfl (by first | exact Or.inl rfl | exact Or.inr (Or.inl rfl) | exact Or.inr (Or.inr rfl))) rfl))))))))))))))
/-! _law_odd -/
theorem sc_law_odd : FnScope ["_law_draw", "_law_some"] ["_law_draw"] (defScope s_law_odd) := C8.fnScope_by (by decide +kernel)
theorem ok_law_odd {f : Addr} {fd : FuncData} (G : Gt K mg) (F : Fun K "_law_odd" "_law_odd" s_law_odd f fd) (c_law_pick : CalD P w K mg base 4 "_law_pick" 2 [] D_law_pick) : FnOk P w K mg base CX0 5 f fd ["_law_draw"] (spD ⟨K, mg⟩ 1 D_law_odd) :=
  have sc := sc_law_odd
  def_ok (k := 4) F sc (fun cdv A outer s H E hr => (fss_cons (fs_set (i := 1) sc.nd rfl (by first | exact Or.inl rfl | exact Or.inr rfl) (fe_lst (fa_cons fe_non (fa_cons fe_bl (fa_cons fe_bl (fa_cons (fe_un unD_neg fe_int) (fa_cons (fe_un unD_neg fe_int) (fa_cons (fe_op opD_pow fe_int fe_int) (fa_cons fe_str (fa_cons fe_str (fa_cons fe_str (fa_cons fe_str (fa_cons fe_str (fa_cons fe_str (fa_cons (fe_tup fa_nil) (fa_cons (fe_tup (fa_cons fe_int fa_nil)) (fa_cons (fe_tup (fa_cons fe_str (fa_cons fe_str fa_nil))) (fa_cons (fe_lst fa_nil) (fa_cons (fe_lst (fa_cons fe_int fa_nil)) (fa_cons fe_dic0 (fa_cons fe_int (fa_cons fe_int fa_nil))))))))))))))))))))))
  (fss_cons (fs_set (i := 1) sc.nd rfl (by first | exact Or.inl rfl | exact Or.inr rfl) (fe_op opD_add (fe_var (i := 1) rfl (by first | exact Or.inl rfl | exact Or.inr (Or.inl rfl) | exact Or.inr (Or.inr rfl))) (fe_lst (fa_cons (fe_lst (fa_cons (fe_lst fa_nil) fa_nil)) (fa_cons (fe_tup (fa_cons fe_bl fa_nil)) (fa_cons (fe_tup (fa_cons fe_int (fa_cons fe_non fa_nil))) (fa_cons fe_str (fa_cons (fe_tup (fa_cons fe_str fa_nil)) (fa_cons (fe_un unD_neg (fe_op opD_pow fe_int fe_int)) (fa_cons (fe_tup (fa_cons fe_int (fa_cons fe_int fa_nil))) (fa_cons fe_str (fa_cons fe_str (fa_cons fe_dicS fa_nil)))))))))))))
  (fss_one (fs_ret (fe_call c_law_pick hr rfl (fa_cons (fe_var (i := 0) rfl (by first | exact Or.inl rfl | exact Or.inr (Or.inl rfl) | exact Or.inr (Or.inr rfl))) (fa_cons (fe_var (i := 1) rfl (by first | exact Or.inl rfl | exact Or.inr (Or.inl rfl) | exact Or.inr (Or.inr rfl))) fa_nil))))))))
/-! _law_near -/
theorem sc_law_near : FnScope ["_law_draw", "_law_pair", "_law_one", "_law_other", "_law_some"] ["_law_draw", "_law_pair"] (defScope s_law_near) := C8.fnScope_by (by decide +kernel)
theorem ok_law_near {f : Addr} {fd : FuncData} (G : Gt K mg) (F : Fun K "_law_near" "_law_near" s_law_near f fd) (c_law_pick : CalD P w K mg base 4 "_law_pick" 2 [] D_law_pick) (c_law_odd : CalD P w K mg base 5 "_law_odd" 1 [] D_law_odd) : FnOk P w K mg base CX0 6 f fd ["_law_draw", "_law_pair"] (spD ⟨K, mg⟩ 2 D_law_near) :=
  have sc := sc_law_near
  def_ok (k := 5) F sc (fun cdv A outer s H E hr => (fss_cons (fs_asg (fe_var (i := 1) rfl (by first | exact Or.inl rfl | exact Or.inr (Or.inl rfl) | exact Or.inr (Or.inr rfl))) (fg_tup rfl (fgs_cons (fg_name (i := 2) sc.nd rfl (by first | exact Or.inl rfl | exact Or.inr rfl)) (fgs_cons (fg_name (i := 3) sc.nd rfl (by first | exact Or.inl rfl | exact Or.inr rfl)) fgs_nil)) (n := 2) (hg := (gCons_len (gCons_len gNil_len)))))
  (fss_cons (fs_set (i := 4) sc.nd rfl (by first | exact Or.inl rfl | exact Or.inr rfl) (fe_lst (fa_cons (fe_var (i := 1) rfl (by first | exact Or.inl rfl | exact Or.inr (Or.inl rfl) | exact Or.inr (Or.inr rfl))) (fa_cons (fe_var (i := 1) rfl (by first | exact Or.inl rfl | exact Or.inr (Or.inl rfl) | exact Or.inr (Or.inr rfl))) (fa_cons (fe_lst (fa_cons (fe_var (i := 2) rfl (by first | exact Or.inl rfl | exact Or.inr (Or.inl rfl) | exact Or.inr (Or.inr rfl))) (fa_cons (fe_var (i := 3) rfl (by first | exact Or.inl rfl | exact Or.inr (Or.inl rfl) | exact Or.inr (Or.inr rfl))) fa_nil))) (fa_cons (fe_tup (fa_cons (fe_op opD_mul (fe_var (i := 2) rfl (by first | exact Or.inl rfl | exact Or.inr (Or.inl rfl) | exact Or.inr (Or.inr rfl))) fe_int) (fa_cons (fe_op opD_mul (fe_var (i := 3) rfl (by first | exact Or.inl rfl | exact Or.inr (Or.inl rfl) | exact Or.inr (Or.inr rfl))) fe_int) fa_nil))) (fa_cons (fe_tup (fa_cons (fe_var (i := 2) rfl (by first | exact Or.inl rfl | exact Or.inr (Or.inl rfl) | exact Or.inr (Or.inr rfl))) (fa_cons (fe_op opD_sub fe_int (fe_var (i := 3) rfl (by first | exact Or.inl rfl | exact Or.inr (Or.inl rfl) | exact Or.inr (Or.inr rfl)))) fa_nil))) (fa_cons (fe_tup (fa_cons (fe_var (i := 2) rfl (by first | exact Or.inl rfl | exact Or.inr (Or.inl rfl) | exact Or.inr (Or.inr rfl))) (fa_cons fe_int fa_nil))) (fa_cons (fe_tup (fa_cons (fe_var (i := 2) rfl (by first | exact Or.inl rfl | exact Or.inr (Or.inl rfl) | exact Or.inr (Or.inr rfl))) fa_nil)) (fa_cons (fe_tup (fa_cons (fe_var (i := 2) rfl (by first | exact Or.inl rfl | exact Or.inr (Or.inl rfl) | exact Or.inr (Or.inr rfl))) (fa_cons (fe_var (i := 3) rfl (by first | exact Or.inl rfl | exact Or.inr (Or.inl rfl) | exact Or.inr (Or.inr rfl))) (fa_cons fe_int fa_nil)))) fa_nil))))))))))
  (fss_one (fs_ret (fe_call c_law_pick hr rfl (fa_cons (fe_var (i := 0) rfl (by first | exact Or.inl rfl | exact Or.inr (Or.inl rfl) | exact Or.inr (Or.inr rfl))) (fa_cons (fe_op opD_add (fe_var (i := 4) rfl (by first | exact Or.inl rfl | exact Or.inr (Or.inl rfl) | exact Or.inr (Or.inr rfl))) (fe_lst (fa_cons (fe_tup (fa_cons fe_bl (fa_cons (fe_var (i := 3) rfl (by first | exact Or.inl rfl | exact Or.inr (Or.inl rfl) | exact Or.inr (Or.inr rfl))) fa_nil))) (fa_cons (fe_tup (fa_cons (fe_var (i := 2) rfl (by first | exact Or.inl rfl | exact Or.inr (Or.inl rfl) | exact Or.inr (Or.inr rfl))) (fa_cons fe_bl fa_nil))) (fa_cons (fe_tup (fa_cons fe_non (fa_cons (fe_var (i := 3) rfl (by first | exact Or.inl rfl | exact Or.inr (Or.inl rfl) | exact Or.inr (Or.inr rfl))) fa_nil))) (fa_cons (fe_tup (fa_cons (fe_ty bD_strI rfl G.n_str bo_str (fa_cons (fe_var (i := 2) rfl (by first | exact Or.inl rfl | exact Or.inr (Or.inl rfl) | exact Or.inr (Or.inr rfl))) fa_nil)) (fa_cons (fe_var (i := 3) rfl (by first | exact Or.inl rfl | exact Or.inr (Or.inl rfl) | exact Or.inr (Or.inr rfl))) fa_nil))) (fa_cons (fe_call c_law_odd hr rfl (fa_cons (fe_var (i := 0) rfl (by first | exact Or.inl rfl | exact Or.inr (Or.inl rfl) | exact Or.inr (Or.inr rfl))) fa_nil)) fa_nil))))))) fa_nil))))))))
/-! _law_number -/
theorem sc_law_number : FnScope ["_law_draw", "_law_size", "_law_found"] ["_law_draw"] (defScope s_law_number) := C8.fnScope_by (by decide +kernel)
theorem ok_law_number {f : Addr} {fd : FuncData} (G : Gt K mg) (F : Fun K "_law_number" "_law_number" s_law_number f fd) (c_law_take : CalD P w K mg base 3 "_law_take" 2 [] D_law_take) (c_law_pick : CalD P w K mg base 4 "_law_pick" 2 [] D_law_pick) : FnOk P w K mg base CX0 5 f fd ["_law_draw"] (spD ⟨K, mg⟩ 1 D_law_number) :=
  have sc := sc_law_number
  def_ok (k := 4) F sc (fun cdv A outer s H E hr => (fss_cons (fs_set (i := 1) sc.nd rfl (by first | exact Or.inl rfl | exact Or.inr rfl) (fe_call c_law_pick hr rfl (fa_cons (fe_var (i := 0) rfl (by first | exact Or.inl rfl | exact Or.inr (Or.inl rfl) | exact Or.inr (Or.inr rfl))) (fa_cons (fe_lst (fa_cons fe_int (fa_cons fe_int (fa_cons fe_int (fa_cons fe_int (fa_cons fe_int (fa_cons (fe_op opD_pow fe_int fe_int) (fa_cons (fe_op opD_pow fe_int fe_int) fa_nil)))))))) fa_nil))))
  (fss_cons (fs_set (i := 2) sc.nd rfl (by first | exact Or.inl rfl | exact Or.inr rfl) (fe_op opD_mul (fe_call c_law_take hr rfl (fa_cons (fe_var (i := 0) rfl (by first | exact Or.inl rfl | exact Or.inr (Or.inl rfl) | exact Or.inr (Or.inr rfl))) (fa_cons (fe_var (i := 1) rfl (by first | exact Or.inl rfl | exact Or.inr (Or.inl rfl) | exact Or.inr (Or.inr rfl))) fa_nil))) (fe_call c_law_pick hr rfl (fa_cons (fe_var (i := 0) rfl (by first | exact Or.inl rfl | exact Or.inr (Or.inl rfl) | exact Or.inr (Or.inr rfl))) (fa_cons (fe_lst (fa_cons fe_int (fa_cons fe_int (fa_cons fe_int (fa_cons fe_int (fa_cons fe_int (fa_cons (fe_op opD_pow fe_int fe_int) fa_nil))))))) fa_nil)))))
  (fss_one (fs_ret (fe_ifExp (FC.ft (fc_data (opD_eq hr) (fe_call c_law_take hr rfl (fa_cons (fe_var (i := 0) rfl (by first | exact Or.inl rfl | exact Or.inr (Or.inl rfl) | exact Or.inr (Or.inr rfl))) (fa_cons fe_int fa_nil))) fe_int rfl)) (fe_var (i := 2) rfl (by first | exact Or.inl rfl | exact Or.inr (Or.inl rfl) | exact Or.inr (Or.inr rfl))) (fe_op opD_sub fe_int (fe_var (i := 2) rfl (by first | exact Or.inl rfl | exact Or.inr (Or.inl rfl) | exact Or.inr (Or.inr rfl))))))))))
/-! law -/
theorem sc_law : FnScope ["_law_script", "_law_draw", "_law_turn", "_law_due", "_law_odd_here", "_law_told_here", "_law_pair", "_law_near_here", "_law_some", "_law_bent", "_law_none", "_law_one", "_law_other", "_law_k"] ["_law_script"] (defScope s_law) := C8.fnScope_by (by decide +kernel)
theorem ok_law {f g : Addr} {fd fdg : FuncData} {psg : List Str} (G : Gt K mg) (F : Fun K "law" "law" s_law f fd) (FB : FnOk P w K mg base CX0 2 g fdg psg (spB ⟨K, mg⟩ beg)) (mb : mg "_law_begun" = some (.ref g)) (kpb : PySem.W.keepIn K (.ref g) = true) (bb : Binds K fdg psg []) (hS : SmB base) (c_law_told : CalD P w K mg base 7 "_law_told" 1 [] D_law_told) (c_law_pick : CalD P w K mg base 4 "_law_pick" 2 [] D_law_pick) (c_law_lists_right : CalG P w K mg base 8 "_law_lists_right" 2 D_law_lists_right) (c_law_take : CalD P w K mg base 3 "_law_take" 2 [] D_law_take) (c_law_near : CalD P w K mg base 6 "_law_near" 2 [] D_law_near) (c_multiplied : CalD P w K mg base 5 "multiplied" 1 [] D_multiplied) (c_added : CalD P w K mg base 5 "added" 1 [] D_added) (c_law_divided : CalD P w K mg base 2 "_law_divided" 2 [] D_law_divided) (c_law_number : CalD P w K mg base 5 "_law_number" 1 [] D_law_number) (c_cw_is_fraction_thing : CkwD P w K mg base 3 "is_fraction" 1 ["thing"] [0] D_is_fraction) (c_is_fraction : CalD P w K mg base 3 "is_fraction" 1 [] D_is_fraction) (c_law_is_good : CalD P w K mg base 3 "_law_is_good" 1 [] D_law_is_good) (c_fraction_1 : CalD P w K mg base 4 "fraction" 2 [.int 1] D_fraction) (hL_7 : Tabl.L 7 = some l_7) (hL_6 : Tabl.L 6 = some l_6) (hL_5 : Tabl.L 5 = some l_5) (hL_4 : Tabl.L 4 = some l_4) (hL_9 : Tabl.L 9 = some l_9) (hL_8 : Tabl.L 8 = some l_8) {ca pa : Addr} (TB : LamX.TabB base mg ca pa) (hcd : ∀ oc od kV doc pm an cdv ct osl, K.lookup f = some ⟨oc, od, .func (PySem.W.fnOf "law" "law" (defArgs s_law) (defBody s_law) (defScope s_law) .none kV doc pm an cdv ct), osl⟩ → cdv = .ref ca) (hmT : (pa, ("law" : Str) ++ ".<locals>." ++ "<lambda>") ∈ Tabl.T) (hu : ∀ p ∈ Tabl.T, p.1 = pa → p.2 = ("law" : Str) ++ ".<locals>." ++ "<lambda>") : LG.FnG P w K mg base 9 f fd ["_law_script"] (spL ⟨K, mg⟩ law) :=
  have sc := sc_law
  law_okT (k := 8) (ca := ca) F sc FB mb kpb bb (by decide) rfl rfl rfl (by first | exact Or.inl rfl | exact Or.inr (Or.inl rfl) | exact Or.inr (Or.inr rfl)) (by first | exact Or.inl rfl | exact Or.inr rfl) rfl (by decide +kernel) (by decide +kernel) (by decide +kernel) hcd (fun A outer s H E hr hG => have hcode : _ := rfl; (fss_cons (fs_for PassesOwn.never rfl (fi_range1 rfl G.n_range (fa_cons (fe_op opD_add fe_int (fe_b (bD_min rfl) rfl G.n_min bo_min (fa_cons (fe_b bD_len rfl G.n_len bo_len (fa_cons (fe_var (i := 0) rfl (by first | exact Or.inl rfl | exact Or.inr (Or.inl rfl) | exact Or.inr (Or.inr rfl))) fa_nil)) (fa_cons fe_int fa_nil)))) fa_nil)) (fg_name (i := 2) sc.nd rfl (by first | exact Or.inl rfl | exact Or.inr rfl))
   (fss_cons (fs_asg (fe_tup (fa_cons (fe_call c_law_number hr rfl (fa_cons (fe_var (i := 1) rfl (by first | exact Or.inl rfl | exact Or.inr (Or.inl rfl) | exact Or.inr (Or.inr rfl))) fa_nil)) (fa_cons (fe_call c_law_number hr rfl (fa_cons (fe_var (i := 1) rfl (by first | exact Or.inl rfl | exact Or.inr (Or.inl rfl) | exact Or.inr (Or.inr rfl))) fa_nil)) fa_nil))) (fg_tup rfl (fgs_cons (fg_name (i := 11) sc.nd rfl (by first | exact Or.inl rfl | exact Or.inr rfl)) (fgs_cons (fg_name (i := 12) sc.nd rfl (by first | exact Or.inl rfl | exact Or.inr rfl)) fgs_nil)) (n := 2) (hg := (gCons_len (gCons_len gNil_len)))))
  (fss_cons (fs_set (i := 3) sc.nd rfl (by first | exact Or.inl rfl | exact Or.inr rfl) (fe_ifExp (FC.ft (fc_data opD_lt (fe_var (i := 12) rfl (by first | exact Or.inl rfl | exact Or.inr (Or.inl rfl) | exact Or.inr (Or.inr rfl))) fe_int rfl)) (fe_lst (fa_cons (fe_var (i := 12) rfl (by first | exact Or.inl rfl | exact Or.inr (Or.inl rfl) | exact Or.inr (Or.inr rfl))) fa_nil)) (fe_tup (fa_cons (fe_call c_law_divided hr rfl (fa_cons (fe_var (i := 11) rfl (by first | exact Or.inl rfl | exact Or.inr (Or.inl rfl) | exact Or.inr (Or.inr rfl))) (fa_cons (fe_b (bD_max2 rfl) rfl G.n_max bo_max (fa_cons fe_int (fa_cons (fe_var (i := 12) rfl (by first | exact Or.inl rfl | exact Or.inr (Or.inl rfl) | exact Or.inr (Or.inr rfl))) fa_nil))) fa_nil))) fa_nil))))
  (fss_cons (fs_if (FC.ft (fc_data (opD_ne hr) (fe_b (bD_reprW hS hr hG) rfl G.n_repr bo_repr (fa_cons (fe_lamcall (c_law_told.r hr) rfl ⟨hL_8, rfl, rfl, rfl, rfl, rfl, (by decide +kernel), LamX.lamS_by (by show LamX.lamSB (defScope s_law) _ = true; decide +kernel), rfl, fun _ => rfl⟩ TB hcode hmT hu fa_nil) fa_nil)) (fe_b (bD_reprW hS hr hG) rfl G.n_repr bo_repr (fa_cons (fe_var (i := 3) rfl (by first | exact Or.inl rfl | exact Or.inr (Or.inl rfl) | exact Or.inr (Or.inr rfl))) fa_nil)) rfl)) (fss_one (fs_ret fe_bl)) fss_nil)
  (fss_cons (fs_if (ft_w (fw_or (FC.ft (fc_data (opD_ne hr) (fe_b (bD_reprW hS hr hG) rfl G.n_repr bo_repr (fa_cons (fe_lamcall (c_law_told.r hr) rfl ⟨hL_9, rfl, rfl, rfl, rfl, rfl, (by decide +kernel), LamX.lamS_by (by show LamX.lamSB (defScope s_law) _ = true; decide +kernel), rfl, fun _ => rfl⟩ TB hcode hmT hu fa_nil) fa_nil)) (fe_b (bD_reprW hS hr hG) rfl G.n_repr bo_repr (fa_cons (fe_var (i := 3) rfl (by first | exact Or.inl rfl | exact Or.inr (Or.inl rfl) | exact Or.inr (Or.inr rfl))) fa_nil)) rfl)) (fw_or1 (FC.ft (fc_data (opD_ne hr) (fe_call c_fraction_1 hr rfl (fa_cons (fe_var (i := 11) rfl (by first | exact Or.inl rfl | exact Or.inr (Or.inl rfl) | exact Or.inr (Or.inr rfl))) fa_nil)) (fe_tup (fa_cons (fe_var (i := 11) rfl (by first | exact Or.inl rfl | exact Or.inr (Or.inl rfl) | exact Or.inr (Or.inr rfl))) (fa_cons fe_int fa_nil))) rfl))))) (fss_one (fs_ret fe_bl)) fss_nil)
  (fss_cons (fs_set (i := 4) sc.nd rfl (by first | exact Or.inl rfl | exact Or.inr rfl) (fe_call c_law_pick hr rfl (fa_cons (fe_var (i := 1) rfl (by first | exact Or.inl rfl | exact Or.inr (Or.inl rfl) | exact Or.inr (Or.inr rfl))) (fa_cons (fe_lst (fa_cons fe_bl (fa_cons fe_non (fa_cons fe_str (fa_cons (fe_tup (fa_cons fe_int (fa_cons fe_int fa_nil))) (fa_cons (fe_lst fa_nil) (fa_cons fe_dic0 (fa_cons fe_bl fa_nil)))))))) fa_nil))))
  (fss_cons (fs_set (i := 5) sc.nd rfl (by first | exact Or.inl rfl | exact Or.inr rfl) (fe_lst (fa_cons (fe_lamcall (c_law_told.r hr) rfl ⟨hL_4, rfl, rfl, rfl, rfl, rfl, (by decide +kernel), LamX.lamS_by (by show LamX.lamSB (defScope s_law) _ = true; decide +kernel), rfl, fun _ => rfl⟩ TB hcode hmT hu fa_nil) fa_nil)))
  (fss_cons (fs_expr (fe_append (pv 5) (fe_lamcall (c_law_told.r hr) rfl ⟨hL_5, rfl, rfl, rfl, rfl, rfl, (by decide +kernel), LamX.lamS_by (by show LamX.lamSB (defScope s_law) _ = true; decide +kernel), rfl, fun _ => rfl⟩ TB hcode hmT hu fa_nil)))
  (fss_cons (fs_if (FC.ft (fc_data (opD_ne hr) (fe_b (bD_reprW hS hr hG) rfl G.n_repr bo_repr (fa_cons (fe_var (i := 5) rfl (by first | exact Or.inl rfl | exact Or.inr (Or.inl rfl) | exact Or.inr (Or.inr rfl))) fa_nil)) (fe_b (bD_reprW hS hr hG) rfl G.n_repr bo_repr (fa_cons (fe_op opD_rep (fe_lst (fa_cons (fe_lst (fa_cons (fe_var (i := 4) rfl (by first | exact Or.inl rfl | exact Or.inr (Or.inl rfl) | exact Or.inr (Or.inr rfl))) fa_nil)) fa_nil)) fe_int) fa_nil)) rfl)) (fss_one (fs_ret fe_bl)) fss_nil)
  (fss_cons (fs_set (i := 6) sc.nd rfl (by first | exact Or.inl rfl | exact Or.inr rfl) (fe_call c_law_divided hr rfl (fa_cons (fe_var (i := 11) rfl (by first | exact Or.inl rfl | exact Or.inr (Or.inl rfl) | exact Or.inr (Or.inr rfl))) (fa_cons (fe_b (bD_max2 rfl) rfl G.n_max bo_max (fa_cons fe_int (fa_cons (fe_var (i := 12) rfl (by first | exact Or.inl rfl | exact Or.inr (Or.inl rfl) | exact Or.inr (Or.inr rfl))) fa_nil))) fa_nil))))
  (fss_cons (fs_set (i := 7) sc.nd rfl (by first | exact Or.inl rfl | exact Or.inr rfl) (fe_call c_law_near hr rfl (fa_cons (fe_var (i := 1) rfl (by first | exact Or.inl rfl | exact Or.inr (Or.inl rfl) | exact Or.inr (Or.inr rfl))) (fa_cons (fe_var (i := 6) rfl (by first | exact Or.inl rfl | exact Or.inr (Or.inl rfl) | exact Or.inr (Or.inr rfl))) fa_nil))))
  (fss_cons (fs_if (FC.ft (fc_data (opD_ne hr) (fe_b (bD_reprW hS hr hG) rfl G.n_repr bo_repr (fa_cons (fe_lst (fa_cons (fe_call c_is_fraction hr rfl (fa_cons (fe_var (i := 7) rfl (by first | exact Or.inl rfl | exact Or.inr (Or.inl rfl) | exact Or.inr (Or.inr rfl))) fa_nil)) (fa_cons (fe_callKw c_cw_is_fraction_thing hr rfl (fk_cons (fe_var (i := 6) rfl (by first | exact Or.inl rfl | exact Or.inr (Or.inl rfl) | exact Or.inr (Or.inr rfl))) fk_nil)) fa_nil))) fa_nil)) (fe_b (bD_reprW hS hr hG) rfl G.n_repr bo_repr (fa_cons (fe_lst (fa_cons (fe_call c_law_is_good hr rfl (fa_cons (fe_var (i := 7) rfl (by first | exact Or.inl rfl | exact Or.inr (Or.inl rfl) | exact Or.inr (Or.inr rfl))) fa_nil)) (fa_cons fe_bl fa_nil))) fa_nil)) rfl)) (fss_one (fs_ret fe_bl)) fss_nil)
  (fss_cons (fs_setLc rfl sc.nd (i := 8) rfl rfl rfl (own := [("_law_k", 13)]) (fi_range1 rfl G.n_range (fa_cons (fe_call c_law_take hr rfl (fa_cons (fe_var (i := 1) rfl (by first | exact Or.inl rfl | exact Or.inr (Or.inl rfl) | exact Or.inr (Or.inr rfl))) (fa_cons fe_int fa_nil))) fa_nil)) (blkOk_by (by show blkC ["_law_script", "_law_draw", "_law_turn", "_law_due", "_law_odd_here", "_law_told_here", "_law_pair", "_law_near_here", "_law_some", "_law_bent", "_law_none", "_law_one", "_law_other", "_law_k"] (defScope s_law) _ [("_law_k", 13)] = true; decide +kernel)) (fun _ _ _ _ _ => (fg_name (i := 13) sc.nd rfl (by first | exact Or.inl rfl | exact Or.inr rfl))) (fun _ _ _ _ _ => fts_nil) (fun _ _ _ _ _ => (fe_call c_law_divided hr rfl (fa_cons (fe_call c_law_number hr rfl (fa_cons (fe_var (i := 1) rfl (by first | exact Or.inl rfl | exact Or.inr (Or.inl rfl) | exact Or.inr (Or.inr rfl))) fa_nil)) (fa_cons (fe_op opD_add fe_int (fe_b bD_abs rfl G.n_abs bo_abs (fa_cons (fe_call c_law_number hr rfl (fa_cons (fe_var (i := 1) rfl (by first | exact Or.inl rfl | exact Or.inr (Or.inl rfl) | exact Or.inr (Or.inr rfl))) fa_nil)) fa_nil))) fa_nil)))))
  (fss_cons (fs_if (ft_w (fw_or (ft_not (ft_val (fe_callG c_law_lists_right hr hG rfl (fa_cons (fe_var (i := 1) rfl (by first | exact Or.inl rfl | exact Or.inr (Or.inl rfl) | exact Or.inr (Or.inr rfl))) (fa_cons (fe_var (i := 8) rfl (by first | exact Or.inl rfl | exact Or.inr (Or.inl rfl) | exact Or.inr (Or.inr rfl))) fa_nil))))) (fw_or (FC.ft (fc_data (opD_ne hr) (fe_call c_added hr rfl (fa_cons (fe_lst fa_nil) fa_nil)) (fe_tup (fa_cons fe_int (fa_cons fe_int fa_nil))) rfl)) (fw_or1 (FC.ft (fc_data (opD_ne hr) (fe_call c_multiplied hr rfl (fa_cons (fe_tup fa_nil) fa_nil)) (fe_tup (fa_cons fe_int (fa_cons fe_int fa_nil))) rfl)))))) (fss_one (fs_ret fe_bl)) fss_nil)
  (fss_cons (fs_setLc rfl sc.nd (i := 9) rfl rfl rfl (own := [("_law_one", 11)]) (fi_val (fe_var (i := 8) rfl (by first | exact Or.inl rfl | exact Or.inr (Or.inl rfl) | exact Or.inr (Or.inr rfl)))) (blkOk_by (by show blkC ["_law_script", "_law_draw", "_law_turn", "_law_due", "_law_odd_here", "_law_told_here", "_law_pair", "_law_near_here", "_law_some", "_law_bent", "_law_none", "_law_one", "_law_other", "_law_k"] (defScope s_law) _ [("_law_one", 11)] = true; decide +kernel)) (fun _ _ _ _ _ => (fg_name (i := 11) sc.nd rfl (by first | exact Or.inl rfl | exact Or.inr rfl))) (fun _ _ _ _ _ => fts_nil) (fun _ _ _ _ _ => (fe_ifExp (FC.ft (fc_data (opD_eq hr) (fe_call c_law_take hr rfl (fa_cons (fe_var (i := 1) rfl (by first | exact Or.inl rfl | exact Or.inr (Or.inl rfl) | exact Or.inr (Or.inr rfl))) (fa_cons fe_int fa_nil))) fe_int rfl)) (fe_call c_law_near hr rfl (fa_cons (fe_var (i := 1) rfl (by first | exact Or.inl rfl | exact Or.inr (Or.inl rfl) | exact Or.inr (Or.inr rfl))) (fa_cons (fe_var (i := 11) rfl (by first | exact Or.inl rfl | exact Or.inr (Or.inl rfl) | exact Or.inr (Or.inr rfl))) fa_nil))) (fe_var (i := 11) rfl (by first | exact Or.inl rfl | exact Or.inr (Or.inl rfl) | exact Or.inr (Or.inr rfl))))))
  (fss_cons (fs_if (ft_not (ft_val (fe_callG c_law_lists_right hr hG rfl (fa_cons (fe_var (i := 1) rfl (by first | exact Or.inl rfl | exact Or.inr (Or.inl rfl) | exact Or.inr (Or.inr rfl))) (fa_cons (fe_var (i := 9) rfl (by first | exact Or.inl rfl | exact Or.inr (Or.inl rfl) | exact Or.inr (Or.inr rfl))) fa_nil))))) (fss_one (fs_ret fe_bl)) fss_nil)
  (fss_cons (fs_set (i := 10) sc.nd rfl (by first | exact Or.inl rfl | exact Or.inr rfl) (fe_call c_law_pick hr rfl (fa_cons (fe_var (i := 1) rfl (by first | exact Or.inl rfl | exact Or.inr (Or.inl rfl) | exact Or.inr (Or.inr rfl))) (fa_cons (fe_lst (fa_cons fe_non (fa_cons fe_int (fa_cons fe_bl (fa_cons fe_str (fa_cons fe_str (fa_cons fe_dic0 (fa_cons (fe_ditI hr) fa_nil)))))))) fa_nil))))
  (fss_cons (fs_set (i := 5) sc.nd rfl (by first | exact Or.inl rfl | exact Or.inr rfl) (fe_lst (fa_cons (fe_lamcall (c_law_told.r hr) rfl ⟨hL_6, rfl, rfl, rfl, rfl, rfl, (by decide +kernel), LamX.lamS_by (by show LamX.lamSB (defScope s_law) _ = true; decide +kernel), rfl, fun _ => rfl⟩ TB hcode hmT hu fa_nil) fa_nil)))
  (fss_cons (fs_expr (fe_append (pv 5) (fe_lamcall (c_law_told.r hr) rfl ⟨hL_7, rfl, rfl, rfl, rfl, rfl, (by decide +kernel), LamX.lamS_by (by show LamX.lamSB (defScope s_law) _ = true; decide +kernel), rfl, fun _ => rfl⟩ TB hcode hmT hu fa_nil)))
  (fss_one (fs_if (FC.ft (fc_data (opD_ne hr) (fe_b (bD_reprW hS hr hG) rfl G.n_repr bo_repr (fa_cons (fe_var (i := 5) rfl (by first | exact Or.inl rfl | exact Or.inr (Or.inl rfl) | exact Or.inr (Or.inr rfl))) fa_nil)) (fe_b (bD_reprW hS hr hG) rfl G.n_repr bo_repr (fa_cons (fe_op opD_rep (fe_lst (fa_cons (fe_lst (fa_cons (fe_var (i := 10) rfl (by first | exact Or.inl rfl | exact Or.inr (Or.inl rfl) | exact Or.inr (Or.inr rfl))) fa_nil)) fa_nil)) fe_int) fa_nil)) rfl)) (fss_one (fs_ret fe_bl)) fss_nil)))))))))))))))))))))
  (fss_one (fs_ret fe_bl))))
end
end KL

end sec_Ders
section sec_Asm
set_option maxRecDepth 100000
set_option maxHeartbeats 4000000
/-! printed by gen_asm.py: what the top has written, put together -/
namespace KL
open PySem L2 FD
theorem kb_tuple : ∀ T ∈ ["NoneType", "bool", "int", "str", "tuple", "list", "dict"], kitB T "tuple" = some (bt_tuple T) := by decide +kernel
theorem kb_bool : ∀ T ∈ ["NoneType", "bool", "int", "str", "tuple", "list", "dict"], kitB T "bool" = some (bt_bool T) := by decide +kernel
theorem kb_int : ∀ T ∈ ["NoneType", "bool", "int", "str", "tuple", "list", "dict"], kitB T "int" = some (bt_int T) := by decide +kernel
theorem asm {l : PySem.W.OpenLaw} {w : World} {K : PySem.W.Frag} {h : Heap} {mg : Str → Option Value} {fa : Addr} (X : K.In h) (G0 : h.Ns mainGlobals mg) (hfa : mg "law" = some (.ref fa))
    {C_MeanError : Addr} {C_BadNumber : Addr} {C_NoTable : Addr} {nm_BadNumber qn_BadNumber : Str} {N_BadNumber : Addr} {bs_BadNumber bm_BadNumber : List Value} {sn_BadNumber : List Str} {su_BadNumber : List Value} {ab_BadNumber : Bool} {co_BadNumber : Option Bool} {dd_BadNumber : Option Addr} {k0_BadNumber k1_BadNumber k2_BadNumber k3_BadNumber k5_BadNumber : Option Value} {f_BadNumber_init : Addr} {od_BadNumber_init an_BadNumber_init : Option Addr} {sl_BadNumber_init : Array (Option Value)} {oc_BadNumber_init kV_BadNumber_init dc_BadNumber_init pm_BadNumber_init ct_BadNumber_init cd_BadNumber_init : Value} {f_law_begun : Addr} {od_law_begun an_law_begun : Option Addr} {sl_law_begun : Array (Option Value)} {oc_law_begun kV_law_begun dc_law_begun pm_law_begun ct_law_begun : Value} {cd_law_begun : Value} {f_divisor_of : Addr} {od_divisor_of an_divisor_of : Option Addr} {sl_divisor_of : Array (Option Value)} {oc_divisor_of kV_divisor_of dc_divisor_of pm_divisor_of ct_divisor_of : Value} {cd_divisor_of : Value} {f_divided : Addr} {od_divided an_divided : Option Addr} {sl_divided : Array (Option Value)} {oc_divided kV_divided dc_divided pm_divided ct_divided : Value} {cd_divided : Value} {f_plus : Addr} {od_plus an_plus : Option Addr} {sl_plus : Array (Option Value)} {oc_plus kV_plus dc_plus pm_plus ct_plus : Value} {cd_plus : Value} {f_is_number : Addr} {od_is_number an_is_number : Option Addr} {sl_is_number : Array (Option Value)} {oc_is_number kV_is_number dc_is_number pm_is_number ct_is_number : Value} {cd_is_number : Value} {f_is_fraction : Addr} {od_is_fraction an_is_fraction : Option Addr} {sl_is_fraction : Array (Option Value)} {oc_is_fraction kV_is_fraction dc_is_fraction pm_is_fraction ct_is_fraction : Value} {cd_is_fraction : Value} {f_need_fractions : Addr} {od_need_fractions an_need_fractions : Option Addr} {sl_need_fractions : Array (Option Value)} {oc_need_fractions kV_need_fractions dc_need_fractions pm_need_fractions ct_need_fractions : Value} {cd_need_fractions : Value} {f_added : Addr} {od_added an_added : Option Addr} {sl_added : Array (Option Value)} {oc_added kV_added dc_added pm_added ct_added : Value} {cd_added : Value} {f_times : Addr} {od_times an_times : Option Addr} {sl_times : Array (Option Value)} {oc_times kV_times dc_times pm_times ct_times : Value} {cd_times : Value} {f_multiplied : Addr} {od_multiplied an_multiplied : Option Addr} {sl_multiplied : Array (Option Value)} {oc_multiplied kV_multiplied dc_multiplied pm_multiplied ct_multiplied : Value} {cd_multiplied : Value} {f_fraction : Addr} {od_fraction an_fraction : Option Addr} {sl_fraction : Array (Option Value)} {oc_fraction kV_fraction dc_fraction pm_fraction ct_fraction : Value} {cd_fraction : Value} {T_fraction : Addr} {oT_fraction : PySem.Obj} {nT_fraction : Nat} {u0_fraction : Tok} {f_law_told : Addr} {od_law_told an_law_told : Option Addr} {sl_law_told : Array (Option Value)} {oc_law_told kV_law_told dc_law_told pm_law_told ct_law_told : Value} {cd_law_told : Value} {f_law_mixed : Addr} {od_law_mixed an_law_mixed : Option Addr} {sl_law_mixed : Array (Option Value)} {oc_law_mixed kV_law_mixed dc_law_mixed pm_law_mixed ct_law_mixed : Value} {cd_law_mixed : Value} {f_law_take : Addr} {od_law_take an_law_take : Option Addr} {sl_law_take : Array (Option Value)} {oc_law_take kV_law_take dc_law_take pm_law_take ct_law_take : Value} {cd_law_take : Value} {f_law_pick : Addr} {od_law_pick an_law_pick : Option Addr} {sl_law_pick : Array (Option Value)} {oc_law_pick kV_law_pick dc_law_pick pm_law_pick ct_law_pick : Value} {cd_law_pick : Value} {f_law_divided : Addr} {od_law_divided an_law_divided : Option Addr} {sl_law_divided : Array (Option Value)} {oc_law_divided kV_law_divided dc_law_divided pm_law_divided ct_law_divided : Value} {cd_law_divided : Value} {f_law_by : Addr} {od_law_by an_law_by : Option Addr} {sl_law_by : Array (Option Value)} {oc_law_by kV_law_by dc_law_by pm_law_by ct_law_by : Value} {cd_law_by : Value} {f_law_plus : Addr} {od_law_plus an_law_plus : Option Addr} {sl_law_plus : Array (Option Value)} {oc_law_plus kV_law_plus dc_law_plus pm_law_plus ct_law_plus : Value} {cd_law_plus : Value} {f_law_is_good : Addr} {od_law_is_good an_law_is_good : Option Addr} {sl_law_is_good : Array (Option Value)} {oc_law_is_good kV_law_is_good dc_law_is_good pm_law_is_good ct_law_is_good : Value} {cd_law_is_good : Value} {f_law_lists_right : Addr} {od_law_lists_right an_law_lists_right : Option Addr} {sl_law_lists_right : Array (Option Value)} {oc_law_lists_right kV_law_lists_right dc_law_lists_right pm_law_lists_right ct_law_lists_right : Value} {f_law_odd : Addr} {od_law_odd an_law_odd : Option Addr} {sl_law_odd : Array (Option Value)} {oc_law_odd kV_law_odd dc_law_odd pm_law_odd ct_law_odd : Value} {cd_law_odd : Value} {f_law_near : Addr} {od_law_near an_law_near : Option Addr} {sl_law_near : Array (Option Value)} {oc_law_near kV_law_near dc_law_near pm_law_near ct_law_near : Value} {cd_law_near : Value} {f_law_number : Addr} {od_law_number an_law_number : Option Addr} {sl_law_number : Array (Option Value)} {oc_law_number kV_law_number dc_law_number pm_law_number ct_law_number : Value} {cd_law_number : Value} {f_law : Addr} {od_law an_law : Option Addr} {sl_law : Array (Option Value)} {oc_law kV_law dc_law pm_law ct_law : Value} {Ts : List Addr} {ca_law_lists_right pa_law_lists_right : Addr} {ca_law pa_law : Addr}
    (aC_MeanError : PySem.W.nsIn K mainGlobals "MeanError" = some (some (.ref C_MeanError)))
    (aC_BadNumber : PySem.W.nsIn K mainGlobals "BadNumber" = some (some (.ref C_BadNumber)))
    (aC_NoTable : PySem.W.nsIn K mainGlobals "NoTable" = some (some (.ref C_NoTable)))
    (lk_BadNumber : K.lookup C_BadNumber = some (excClassObj nm_BadNumber qn_BadNumber C_BadNumber N_BadNumber bs_BadNumber bm_BadNumber true sn_BadNumber su_BadNumber ab_BadNumber co_BadNumber dd_BadNumber k0_BadNumber k1_BadNumber k2_BadNumber k3_BadNumber k5_BadNumber "ValueError.__new__"))
    (ki_rv_BadNumber : PySem.HandSPX.refsVE bm_BadNumber = true)
    (xsa_BadNumber : PySem.W.findIn K (.ref C_BadNumber) "__setattr__" = some (some (.builtin "object.__setattr__")))
    (xex_BadNumber : PySem.W.subIn K (.ref C_BadNumber) (.type "BaseException") = some true)
    (xty_BadNumber : PySem.W.typeIn K (.ref C_BadNumber) = some (.type "type"))
    (xkc_BadNumber : PySem.W.keepIn K (.ref C_BadNumber) = true)
    (xga_BadNumber : PySem.W.findIn K (.ref C_BadNumber) "__getattribute__" = some (some (.builtin "BaseException.__getattribute__")))
    (xgt_BadNumber : PySem.W.findIn K (.ref C_BadNumber) "__getattr__" = some none)
    (xhd_BadNumber : PySem.W.hasDictIn K C_BadNumber = true)
    (xha_BadNumber : PySem.W.findIn K (.ref C_BadNumber) "__class__" = some (some (.builtin "object.__class__")))
    (xmr_BadNumber : PySem.W.mroIn K C_BadNumber (.type "object") = some true)
    (xno_BadNumber : PySem.W.findIn K (.ref C_BadNumber) "number" = some none)
    (a_BadNumber_init : PySem.W.findIn K (.ref C_BadNumber) "__init__" = some (some (.ref f_BadNumber_init)))
    (xti_BadNumber_init : PySem.W.typeIn K (.ref f_BadNumber_init) = some (.type "function"))
    (l_BadNumber_init : K.lookup f_BadNumber_init = some ⟨oc_BadNumber_init, od_BadNumber_init, .func (PySem.W.fnOf "__init__" "BadNumber.__init__" (defArgs s_BadNumber_init) (defBody s_BadNumber_init) (defScope s_BadNumber_init) .none kV_BadNumber_init dc_BadNumber_init pm_BadNumber_init an_BadNumber_init cd_BadNumber_init ct_BadNumber_init), sl_BadNumber_init⟩)
    (c_BadNumber_init : PySem.W.codeIn K cd_BadNumber_init "BadNumber.__init__" = true)
    (k_BadNumber_init : PySem.W.keepIn K (.ref f_BadNumber_init) = true)
    (kk_em_MeanError_BadNumber : PySem.W.exmOne K (.ref C_BadNumber) (.ref C_MeanError) = some true)
    (kk_xi_BadNumber_BadNumber : PySem.W.kitOne K (.ref C_BadNumber) (.ref C_BadNumber) = some true)
    (kk_xi_NoTable_BadNumber : PySem.W.kitOne K (.ref C_BadNumber) (.ref C_NoTable) = some false)
    (hn0 : PySem.W.specialIn K (.builtin "object.__class__") "__get__" = some (some (.builtin "getset_descriptor.__get__")))
    (ht0 : PySem.W.takesIn K (.builtin "object.__class__") = some true)
    (ki_NoTable_NoneType : PySem.W.kitOne K (.type "NoneType") (.ref C_NoTable) = some false)
    (ki_NoTable_bool : PySem.W.kitOne K (.type "bool") (.ref C_NoTable) = some false)
    (ki_NoTable_int : PySem.W.kitOne K (.type "int") (.ref C_NoTable) = some false)
    (ki_NoTable_str : PySem.W.kitOne K (.type "str") (.ref C_NoTable) = some false)
    (ki_NoTable_tuple : PySem.W.kitOne K (.type "tuple") (.ref C_NoTable) = some false)
    (ki_NoTable_list : PySem.W.kitOne K (.type "list") (.ref C_NoTable) = some false)
    (ki_NoTable_dict : PySem.W.kitOne K (.type "dict") (.ref C_NoTable) = some false)
    (ki_BadNumber_NoneType : PySem.W.kitOne K (.type "NoneType") (.ref C_BadNumber) = some false)
    (ki_BadNumber_bool : PySem.W.kitOne K (.type "bool") (.ref C_BadNumber) = some false)
    (ki_BadNumber_int : PySem.W.kitOne K (.type "int") (.ref C_BadNumber) = some false)
    (ki_BadNumber_str : PySem.W.kitOne K (.type "str") (.ref C_BadNumber) = some false)
    (ki_BadNumber_tuple : PySem.W.kitOne K (.type "tuple") (.ref C_BadNumber) = some false)
    (ki_BadNumber_list : PySem.W.kitOne K (.type "list") (.ref C_BadNumber) = some false)
    (ki_BadNumber_dict : PySem.W.kitOne K (.type "dict") (.ref C_BadNumber) = some false)
    (z_abs : PySem.W.nsIn K mainGlobals "abs" = some none)
    (z_bool : PySem.W.nsIn K mainGlobals "bool" = some none)
    (z_int : PySem.W.nsIn K mainGlobals "int" = some none)
    (z_isinstance : PySem.W.nsIn K mainGlobals "isinstance" = some none)
    (z_len : PySem.W.nsIn K mainGlobals "len" = some none)
    (z_list : PySem.W.nsIn K mainGlobals "list" = some none)
    (z_max : PySem.W.nsIn K mainGlobals "max" = some none)
    (z_min : PySem.W.nsIn K mainGlobals "min" = some none)
    (z_range : PySem.W.nsIn K mainGlobals "range" = some none)
    (z_repr : PySem.W.nsIn K mainGlobals "repr" = some none)
    (z_str : PySem.W.nsIn K mainGlobals "str" = some none)
    (z_tuple : PySem.W.nsIn K mainGlobals "tuple" = some none)
    (a_law_begun : PySem.W.nsIn K mainGlobals "_law_begun" = some (some (.ref f_law_begun)))
    (l_law_begun : K.lookup f_law_begun = some ⟨oc_law_begun, od_law_begun, .func (PySem.W.fnOf "_law_begun" "_law_begun" (defArgs s_law_begun) (defBody s_law_begun) (defScope s_law_begun) .none kV_law_begun dc_law_begun pm_law_begun an_law_begun cd_law_begun ct_law_begun), sl_law_begun⟩)
    (c_law_begun : PySem.W.codeIn K cd_law_begun "_law_begun" = true)
    (k_law_begun : PySem.W.keepIn K (.ref f_law_begun) = true)
    (a_divisor_of : PySem.W.nsIn K mainGlobals "divisor_of" = some (some (.ref f_divisor_of)))
    (l_divisor_of : K.lookup f_divisor_of = some ⟨oc_divisor_of, od_divisor_of, .func (PySem.W.fnOf "divisor_of" "divisor_of" (defArgs s_divisor_of) (defBody s_divisor_of) (defScope s_divisor_of) .none kV_divisor_of dc_divisor_of pm_divisor_of an_divisor_of cd_divisor_of ct_divisor_of), sl_divisor_of⟩)
    (c_divisor_of : PySem.W.codeIn K cd_divisor_of "divisor_of" = true)
    (k_divisor_of : PySem.W.keepIn K (.ref f_divisor_of) = true)
    (a_divided : PySem.W.nsIn K mainGlobals "divided" = some (some (.ref f_divided)))
    (l_divided : K.lookup f_divided = some ⟨oc_divided, od_divided, .func (PySem.W.fnOf "divided" "divided" (defArgs s_divided) (defBody s_divided) (defScope s_divided) .none kV_divided dc_divided pm_divided an_divided cd_divided ct_divided), sl_divided⟩)
    (c_divided : PySem.W.codeIn K cd_divided "divided" = true)
    (k_divided : PySem.W.keepIn K (.ref f_divided) = true)
    (a_plus : PySem.W.nsIn K mainGlobals "plus" = some (some (.ref f_plus)))
    (l_plus : K.lookup f_plus = some ⟨oc_plus, od_plus, .func (PySem.W.fnOf "plus" "plus" (defArgs s_plus) (defBody s_plus) (defScope s_plus) .none kV_plus dc_plus pm_plus an_plus cd_plus ct_plus), sl_plus⟩)
    (c_plus : PySem.W.codeIn K cd_plus "plus" = true)
    (k_plus : PySem.W.keepIn K (.ref f_plus) = true)
    (a_is_number : PySem.W.nsIn K mainGlobals "is_number" = some (some (.ref f_is_number)))
    (l_is_number : K.lookup f_is_number = some ⟨oc_is_number, od_is_number, .func (PySem.W.fnOf "is_number" "is_number" (defArgs s_is_number) (defBody s_is_number) (defScope s_is_number) .none kV_is_number dc_is_number pm_is_number an_is_number cd_is_number ct_is_number), sl_is_number⟩)
    (c_is_number : PySem.W.codeIn K cd_is_number "is_number" = true)
    (k_is_number : PySem.W.keepIn K (.ref f_is_number) = true)
    (a_is_fraction : PySem.W.nsIn K mainGlobals "is_fraction" = some (some (.ref f_is_fraction)))
    (l_is_fraction : K.lookup f_is_fraction = some ⟨oc_is_fraction, od_is_fraction, .func (PySem.W.fnOf "is_fraction" "is_fraction" (defArgs s_is_fraction) (defBody s_is_fraction) (defScope s_is_fraction) .none kV_is_fraction dc_is_fraction pm_is_fraction an_is_fraction cd_is_fraction ct_is_fraction), sl_is_fraction⟩)
    (c_is_fraction : PySem.W.codeIn K cd_is_fraction "is_fraction" = true)
    (k_is_fraction : PySem.W.keepIn K (.ref f_is_fraction) = true)
    (a_need_fractions : PySem.W.nsIn K mainGlobals "need_fractions" = some (some (.ref f_need_fractions)))
    (l_need_fractions : K.lookup f_need_fractions = some ⟨oc_need_fractions, od_need_fractions, .func (PySem.W.fnOf "need_fractions" "need_fractions" (defArgs s_need_fractions) (defBody s_need_fractions) (defScope s_need_fractions) .none kV_need_fractions dc_need_fractions pm_need_fractions an_need_fractions cd_need_fractions ct_need_fractions), sl_need_fractions⟩)
    (c_need_fractions : PySem.W.codeIn K cd_need_fractions "need_fractions" = true)
    (k_need_fractions : PySem.W.keepIn K (.ref f_need_fractions) = true)
    (a_added : PySem.W.nsIn K mainGlobals "added" = some (some (.ref f_added)))
    (l_added : K.lookup f_added = some ⟨oc_added, od_added, .func (PySem.W.fnOf "added" "added" (defArgs s_added) (defBody s_added) (defScope s_added) .none kV_added dc_added pm_added an_added cd_added ct_added), sl_added⟩)
    (c_added : PySem.W.codeIn K cd_added "added" = true)
    (k_added : PySem.W.keepIn K (.ref f_added) = true)
    (a_times : PySem.W.nsIn K mainGlobals "times" = some (some (.ref f_times)))
    (l_times : K.lookup f_times = some ⟨oc_times, od_times, .func (PySem.W.fnOf "times" "times" (defArgs s_times) (defBody s_times) (defScope s_times) .none kV_times dc_times pm_times an_times cd_times ct_times), sl_times⟩)
    (c_times : PySem.W.codeIn K cd_times "times" = true)
    (k_times : PySem.W.keepIn K (.ref f_times) = true)
    (a_multiplied : PySem.W.nsIn K mainGlobals "multiplied" = some (some (.ref f_multiplied)))
    (l_multiplied : K.lookup f_multiplied = some ⟨oc_multiplied, od_multiplied, .func (PySem.W.fnOf "multiplied" "multiplied" (defArgs s_multiplied) (defBody s_multiplied) (defScope s_multiplied) .none kV_multiplied dc_multiplied pm_multiplied an_multiplied cd_multiplied ct_multiplied), sl_multiplied⟩)
    (c_multiplied : PySem.W.codeIn K cd_multiplied "multiplied" = true)
    (k_multiplied : PySem.W.keepIn K (.ref f_multiplied) = true)
    (a_fraction : PySem.W.nsIn K mainGlobals "fraction" = some (some (.ref f_fraction)))
    (l_fraction : K.lookup f_fraction = some ⟨oc_fraction, od_fraction, .func (PySem.W.fnOf "fraction" "fraction" (defArgs s_fraction) (defBody s_fraction) (defScope s_fraction) (.ref T_fraction) kV_fraction dc_fraction pm_fraction an_fraction cd_fraction ct_fraction), sl_fraction⟩)
    (c_fraction : PySem.W.codeIn K cd_fraction "fraction" = true)
    (k_fraction : PySem.W.keepIn K (.ref f_fraction) = true)
    (lT_fraction : K.lookup T_fraction = some oT_fraction)
    (dT_fraction : oT_fraction.data = .seq #[.int 1 u0_fraction] nT_fraction)
    (a_law_told : PySem.W.nsIn K mainGlobals "_law_told" = some (some (.ref f_law_told)))
    (l_law_told : K.lookup f_law_told = some ⟨oc_law_told, od_law_told, .func (PySem.W.fnOf "_law_told" "_law_told" (defArgs s_law_told) (defBody s_law_told) (defScope s_law_told) .none kV_law_told dc_law_told pm_law_told an_law_told cd_law_told ct_law_told), sl_law_told⟩)
    (c_law_told : PySem.W.codeIn K cd_law_told "_law_told" = true)
    (k_law_told : PySem.W.keepIn K (.ref f_law_told) = true)
    (a_law_mixed : PySem.W.nsIn K mainGlobals "_law_mixed" = some (some (.ref f_law_mixed)))
    (l_law_mixed : K.lookup f_law_mixed = some ⟨oc_law_mixed, od_law_mixed, .func (PySem.W.fnOf "_law_mixed" "_law_mixed" (defArgs s_law_mixed) (defBody s_law_mixed) (defScope s_law_mixed) .none kV_law_mixed dc_law_mixed pm_law_mixed an_law_mixed cd_law_mixed ct_law_mixed), sl_law_mixed⟩)
    (c_law_mixed : PySem.W.codeIn K cd_law_mixed "_law_mixed" = true)
    (k_law_mixed : PySem.W.keepIn K (.ref f_law_mixed) = true)
    (a_law_take : PySem.W.nsIn K mainGlobals "_law_take" = some (some (.ref f_law_take)))
    (l_law_take : K.lookup f_law_take = some ⟨oc_law_take, od_law_take, .func (PySem.W.fnOf "_law_take" "_law_take" (defArgs s_law_take) (defBody s_law_take) (defScope s_law_take) .none kV_law_take dc_law_take pm_law_take an_law_take cd_law_take ct_law_take), sl_law_take⟩)
    (c_law_take : PySem.W.codeIn K cd_law_take "_law_take" = true)
    (k_law_take : PySem.W.keepIn K (.ref f_law_take) = true)
    (a_law_pick : PySem.W.nsIn K mainGlobals "_law_pick" = some (some (.ref f_law_pick)))
    (l_law_pick : K.lookup f_law_pick = some ⟨oc_law_pick, od_law_pick, .func (PySem.W.fnOf "_law_pick" "_law_pick" (defArgs s_law_pick) (defBody s_law_pick) (defScope s_law_pick) .none kV_law_pick dc_law_pick pm_law_pick an_law_pick cd_law_pick ct_law_pick), sl_law_pick⟩)
    (c_law_pick : PySem.W.codeIn K cd_law_pick "_law_pick" = true)
    (k_law_pick : PySem.W.keepIn K (.ref f_law_pick) = true)
    (a_law_divided : PySem.W.nsIn K mainGlobals "_law_divided" = some (some (.ref f_law_divided)))
    (l_law_divided : K.lookup f_law_divided = some ⟨oc_law_divided, od_law_divided, .func (PySem.W.fnOf "_law_divided" "_law_divided" (defArgs s_law_divided) (defBody s_law_divided) (defScope s_law_divided) .none kV_law_divided dc_law_divided pm_law_divided an_law_divided cd_law_divided ct_law_divided), sl_law_divided⟩)
    (c_law_divided : PySem.W.codeIn K cd_law_divided "_law_divided" = true)
    (k_law_divided : PySem.W.keepIn K (.ref f_law_divided) = true)
    (a_law_by : PySem.W.nsIn K mainGlobals "_law_by" = some (some (.ref f_law_by)))
    (l_law_by : K.lookup f_law_by = some ⟨oc_law_by, od_law_by, .func (PySem.W.fnOf "_law_by" "_law_by" (defArgs s_law_by) (defBody s_law_by) (defScope s_law_by) .none kV_law_by dc_law_by pm_law_by an_law_by cd_law_by ct_law_by), sl_law_by⟩)
    (c_law_by : PySem.W.codeIn K cd_law_by "_law_by" = true)
    (k_law_by : PySem.W.keepIn K (.ref f_law_by) = true)
    (a_law_plus : PySem.W.nsIn K mainGlobals "_law_plus" = some (some (.ref f_law_plus)))
    (l_law_plus : K.lookup f_law_plus = some ⟨oc_law_plus, od_law_plus, .func (PySem.W.fnOf "_law_plus" "_law_plus" (defArgs s_law_plus) (defBody s_law_plus) (defScope s_law_plus) .none kV_law_plus dc_law_plus pm_law_plus an_law_plus cd_law_plus ct_law_plus), sl_law_plus⟩)
    (c_law_plus : PySem.W.codeIn K cd_law_plus "_law_plus" = true)
    (k_law_plus : PySem.W.keepIn K (.ref f_law_plus) = true)
    (a_law_is_good : PySem.W.nsIn K mainGlobals "_law_is_good" = some (some (.ref f_law_is_good)))
    (l_law_is_good : K.lookup f_law_is_good = some ⟨oc_law_is_good, od_law_is_good, .func (PySem.W.fnOf "_law_is_good" "_law_is_good" (defArgs s_law_is_good) (defBody s_law_is_good) (defScope s_law_is_good) .none kV_law_is_good dc_law_is_good pm_law_is_good an_law_is_good cd_law_is_good ct_law_is_good), sl_law_is_good⟩)
    (c_law_is_good : PySem.W.codeIn K cd_law_is_good "_law_is_good" = true)
    (k_law_is_good : PySem.W.keepIn K (.ref f_law_is_good) = true)
    (a_law_lists_right : PySem.W.nsIn K mainGlobals "_law_lists_right" = some (some (.ref f_law_lists_right)))
    (l_law_lists_right : K.lookup f_law_lists_right = some ⟨oc_law_lists_right, od_law_lists_right, .func (PySem.W.fnOf "_law_lists_right" "_law_lists_right" (defArgs s_law_lists_right) (defBody s_law_lists_right) (defScope s_law_lists_right) .none kV_law_lists_right dc_law_lists_right pm_law_lists_right an_law_lists_right (.ref ca_law_lists_right) ct_law_lists_right), sl_law_lists_right⟩)
    (c_law_lists_right : PySem.W.codeIn K (.ref ca_law_lists_right) "_law_lists_right" = true)
    (k_law_lists_right : PySem.W.keepIn K (.ref f_law_lists_right) = true)
    (a_law_odd : PySem.W.nsIn K mainGlobals "_law_odd" = some (some (.ref f_law_odd)))
    (l_law_odd : K.lookup f_law_odd = some ⟨oc_law_odd, od_law_odd, .func (PySem.W.fnOf "_law_odd" "_law_odd" (defArgs s_law_odd) (defBody s_law_odd) (defScope s_law_odd) .none kV_law_odd dc_law_odd pm_law_odd an_law_odd cd_law_odd ct_law_odd), sl_law_odd⟩)
    (c_law_odd : PySem.W.codeIn K cd_law_odd "_law_odd" = true)
    (k_law_odd : PySem.W.keepIn K (.ref f_law_odd) = true)
    (a_law_near : PySem.W.nsIn K mainGlobals "_law_near" = some (some (.ref f_law_near)))
    (l_law_near : K.lookup f_law_near = some ⟨oc_law_near, od_law_near, .func (PySem.W.fnOf "_law_near" "_law_near" (defArgs s_law_near) (defBody s_law_near) (defScope s_law_near) .none kV_law_near dc_law_near pm_law_near an_law_near cd_law_near ct_law_near), sl_law_near⟩)
    (c_law_near : PySem.W.codeIn K cd_law_near "_law_near" = true)
    (k_law_near : PySem.W.keepIn K (.ref f_law_near) = true)
    (a_law_number : PySem.W.nsIn K mainGlobals "_law_number" = some (some (.ref f_law_number)))
    (l_law_number : K.lookup f_law_number = some ⟨oc_law_number, od_law_number, .func (PySem.W.fnOf "_law_number" "_law_number" (defArgs s_law_number) (defBody s_law_number) (defScope s_law_number) .none kV_law_number dc_law_number pm_law_number an_law_number cd_law_number ct_law_number), sl_law_number⟩)
    (c_law_number : PySem.W.codeIn K cd_law_number "_law_number" = true)
    (k_law_number : PySem.W.keepIn K (.ref f_law_number) = true)
    (a_law : PySem.W.nsIn K mainGlobals "law" = some (some (.ref f_law)))
    (l_law : K.lookup f_law = some ⟨oc_law, od_law, .func (PySem.W.fnOf "law" "law" (defArgs s_law) (defBody s_law) (defScope s_law) .none kV_law dc_law pm_law an_law (.ref ca_law) ct_law), sl_law⟩)
    (c_law : PySem.W.codeIn K (.ref ca_law) "law" = true)
    (k_law : PySem.W.keepIn K (.ref f_law) = true)
    (tb : ∀ P ∈ Ts, h.get? P = some (PySem.W.tabObj #[]))
    (mT_law_lists_right : Ts[0]? = some pa_law_lists_right)
    (ch_law_lists_right : PySem.W.codeHdIn K ca_law_lists_right pa_law_lists_right = true)
    (nT_law_lists_right : K.lookup pa_law_lists_right = none)
    (mT_law : Ts[1]? = some pa_law)
    (ch_law : PySem.W.codeHdIn K ca_law pa_law = true)
    (nT_law : K.lookup pa_law = none)
    (ne_law_lists_right_law : pa_law_lists_right ≠ pa_law)
    (ne_law_law_lists_right : pa_law ≠ pa_law_lists_right)
    (hp : ∀ ns : List Int, ns.length ≤ 63 → (∀ z ∈ ns, Builtin.Int.intBits z ≤ 1048576) → KL.law ns = true) : LG.LawS l w K 9 63 "_law_script" mg fa h := by
  have e := hfa.symm.trans (PySem.W.mg_of X G0 a_law)
  cases e
  letI : Tabl := { T := [(pa_law_lists_right, ("_law_lists_right" : Str) ++ ".<locals>." ++ "<lambda>"), (pa_law, ("law" : Str) ++ ".<locals>." ++ "<lambda>")], L := fun i => match i with | 0 => some l_0 | 1 => some l_1 | 2 => some l_2 | 3 => some l_3 | 4 => some l_4 | 5 => some l_5 | 6 => some l_6 | 7 => some l_7 | 8 => some l_8 | 9 => some l_9 | _ => none }
  have mC_MeanError : mg "MeanError" = some (.ref C_MeanError) := PySem.W.mg_of X G0 aC_MeanError
  have mC_BadNumber : mg "BadNumber" = some (.ref C_BadNumber) := PySem.W.mg_of X G0 aC_BadNumber
  have mC_NoTable : mg "NoTable" = some (.ref C_NoTable) := PySem.W.mg_of X G0 aC_NoTable
  have Xt_BadNumber : XTy K C_BadNumber := ⟨xga_BadNumber, xgt_BadNumber, xex_BadNumber, xhd_BadNumber, xha_BadNumber, hn0, ht0, xmr_BadNumber⟩
  have G : Gt K mg := ⟨PySem.W.mg_none_of X G0 z_abs,
    PySem.W.mg_none_of X G0 z_bool,
    PySem.W.mg_none_of X G0 z_int,
    PySem.W.mg_none_of X G0 z_isinstance,
    PySem.W.mg_none_of X G0 z_len,
    PySem.W.mg_none_of X G0 z_list,
    PySem.W.mg_none_of X G0 z_max,
    PySem.W.mg_none_of X G0 z_min,
    PySem.W.mg_none_of X G0 z_range,
    PySem.W.mg_none_of X G0 z_repr,
    PySem.W.mg_none_of X G0 z_str,
    PySem.W.mg_none_of X G0 z_tuple,
    ⟨⟨C_NoTable, mC_NoTable, ⟨fun T hT => by
      simp only [List.mem_cons, List.not_mem_nil, or_false] at hT
      rcases hT with rfl | rfl | rfl | rfl | rfl | rfl | rfl
      · exact ki_NoTable_NoneType
      · exact ki_NoTable_bool
      · exact ki_NoTable_int
      · exact ki_NoTable_str
      · exact ki_NoTable_tuple
      · exact ki_NoTable_list
      · exact ki_NoTable_dict, fun p hp => absurd hp (by simp [ic_NoTable])⟩⟩⟩,
    ⟨⟨C_BadNumber, mC_BadNumber, ⟨fun T hT => by
      simp only [List.mem_cons, List.not_mem_nil, or_false] at hT
      rcases hT with rfl | rfl | rfl | rfl | rfl | rfl | rfl
      · exact ki_BadNumber_NoneType
      · exact ki_BadNumber_bool
      · exact ki_BadNumber_int
      · exact ki_BadNumber_str
      · exact ki_BadNumber_tuple
      · exact ki_BadNumber_list
      · exact ki_BadNumber_dict, fun p hp => absurd hp (by simp [ic_BadNumber])⟩⟩⟩,
    ⟨fun T hT => by
      simp only [List.mem_cons, List.not_mem_nil, or_false] at hT
      rcases hT with rfl | rfl | rfl | rfl | rfl | rfl | rfl
      · exact kitAny_cons (b := false) (kit_ty (by decide +kernel)) (fun _ => kitAny_cons (b := false) (kit_ty (by decide +kernel)) (fun _ => kitAny_nil) (by decide)) (by decide)
      · exact kitAny_cons (b := false) (kit_ty (by decide +kernel)) (fun _ => kitAny_cons (b := false) (kit_ty (by decide +kernel)) (fun _ => kitAny_nil) (by decide)) (by decide)
      · exact kitAny_cons (b := false) (kit_ty (by decide +kernel)) (fun _ => kitAny_cons (b := false) (kit_ty (by decide +kernel)) (fun _ => kitAny_nil) (by decide)) (by decide)
      · exact kitAny_cons (b := false) (kit_ty (by decide +kernel)) (fun _ => kitAny_cons (b := false) (kit_ty (by decide +kernel)) (fun _ => kitAny_nil) (by decide)) (by decide)
      · exact kitAny_cons (b := false) (kit_ty (by decide +kernel)) (fun _ => kitAny_cons (b := true) (kit_ty (by decide +kernel)) (fun z => by cases z) (by decide)) (by decide)
      · exact kitAny_cons (b := true) (kit_ty (by decide +kernel)) (fun z => by cases z) (by decide)
      · exact kitAny_cons (b := false) (kit_ty (by decide +kernel)) (fun _ => kitAny_cons (b := false) (kit_ty (by decide +kernel)) (fun _ => kitAny_nil) (by decide)) (by decide), fun p hp => absurd hp (by simp [ic_list_tuple])⟩,
    ⟨fun T hT => kit_ty (kb_tuple T hT), fun p hp => absurd hp (by simp [ic_tuple])⟩,
    ⟨fun T hT => kit_ty (kb_bool T hT), fun p hp => absurd hp (by simp [ic_bool])⟩,
    ⟨fun T hT => kit_ty (kb_int T hT), fun p hp => absurd hp (by simp [ic_int])⟩,
    ⟨⟨C_MeanError, mC_MeanError, fun p hp => by
      simp only [xs_MeanError, List.mem_cons, List.not_mem_nil, or_false] at hp
      rcases hp with rfl
      · exact ⟨C_BadNumber, mC_BadNumber, kk_em_MeanError_BadNumber⟩⟩⟩,
    ⟨⟨C_BadNumber, mC_BadNumber, ⟨fun p hp => by
      simp only [xi_BadNumber, List.mem_cons, List.not_mem_nil, or_false] at hp
      rcases hp with rfl
      · exact ⟨C_BadNumber, mC_BadNumber, Xt_BadNumber, kk_xi_BadNumber_BadNumber⟩⟩⟩⟩,
    ⟨⟨C_NoTable, mC_NoTable, ⟨fun p hp => by
      simp only [xi_NoTable, List.mem_cons, List.not_mem_nil, or_false] at hp
      rcases hp with rfl
      · exact ⟨C_BadNumber, mC_BadNumber, Xt_BadNumber, kk_xi_NoTable_BadNumber⟩⟩⟩⟩,
    ⟨fun p hp => by
      simp only [xf_number, List.mem_cons, List.not_mem_nil, or_false] at hp
      rcases hp with rfl
      · exact ⟨C_BadNumber, mC_BadNumber, ⟨xga_BadNumber, xgt_BadNumber, xex_BadNumber, xhd_BadNumber⟩, xno_BadNumber⟩⟩⟩
  have F_law_begun := fun_mk (st := s_law_begun) l_law_begun c_law_begun k_law_begun
  have b_law_begun := F_law_begun.binds (ps := ["_law_script"]) fun _ _ _ _ _ _ us hl => match us, hl with | [_], _ => rfl
  have F_divisor_of := fun_mk (st := s_divisor_of) l_divisor_of c_divisor_of k_divisor_of
  have b_divisor_of := F_divisor_of.binds (ps := ["one", "other"]) fun _ _ _ _ _ _ us hl => match us, hl with | [_, _], _ => rfl
  have F_divided := fun_mk (st := s_divided) l_divided c_divided k_divided
  have b_divided := F_divided.binds (ps := ["top", "bottom"]) fun _ _ _ _ _ _ us hl => match us, hl with | [_, _], _ => rfl
  have F_plus := fun_mk (st := s_plus) l_plus c_plus k_plus
  have b_plus := F_plus.binds (ps := ["one", "other"]) fun _ _ _ _ _ _ us hl => match us, hl with | [_, _], _ => rfl
  have F_is_number := fun_mk (st := s_is_number) l_is_number c_is_number k_is_number
  have b_is_number := F_is_number.binds (ps := ["thing"]) fun _ _ _ _ _ _ us hl => match us, hl with | [_], _ => rfl
  have F_is_fraction := fun_mk (st := s_is_fraction) l_is_fraction c_is_fraction k_is_fraction
  have b_is_fraction := F_is_fraction.binds (ps := ["thing"]) fun _ _ _ _ _ _ us hl => match us, hl with | [_], _ => rfl
  have F_need_fractions := fun_mk (st := s_need_fractions) l_need_fractions c_need_fractions k_need_fractions
  have b_need_fractions := F_need_fractions.binds (ps := ["fractions"]) fun _ _ _ _ _ _ us hl => match us, hl with | [_], _ => rfl
  have F_added := fun_mk (st := s_added) l_added c_added k_added
  have b_added := F_added.binds (ps := ["fractions"]) fun _ _ _ _ _ _ us hl => match us, hl with | [_], _ => rfl
  have F_times := fun_mk (st := s_times) l_times c_times k_times
  have b_times := F_times.binds (ps := ["one", "other"]) fun _ _ _ _ _ _ us hl => match us, hl with | [_, _], _ => rfl
  have F_multiplied := fun_mk (st := s_multiplied) l_multiplied c_multiplied k_multiplied
  have b_multiplied := F_multiplied.binds (ps := ["fractions"]) fun _ _ _ _ _ _ us hl => match us, hl with | [_], _ => rfl
  have F_fraction : FunD K "fraction" "fraction" (defArgs s_fraction) (defBody s_fraction) (defScope s_fraction) [.int 1] [] f_fraction _ := ⟨⟨_, _, _, _, _, _, _, _, _, _, rfl, l_fraction, c_fraction, .inr ⟨by simp, T_fraction, oT_fraction, [.int 1 u0_fraction], nT_fraction, rfl, lT_fraction, dT_fraction, (.cons (show RelV (.int 1) (.int 1 u0_fraction) from ⟨_, rfl⟩) .nil)⟩, .inl rfl⟩, k_fraction⟩
  have rE0_fraction : ∀ da G, Rep ⟨K, mg⟩ da G (.int 1) (.int 1) := fun da G => .int _
  have F_law_told := fun_mk (st := s_law_told) l_law_told c_law_told k_law_told
  have b_law_told := F_law_told.binds (ps := ["_law_work"]) fun _ _ _ _ _ _ us hl => match us, hl with | [_], _ => rfl
  have F_law_mixed := fun_mk (st := s_law_mixed) l_law_mixed c_law_mixed k_law_mixed
  have b_law_mixed := F_law_mixed.binds (ps := ["_law_draw"]) fun _ _ _ _ _ _ us hl => match us, hl with | [_], _ => rfl
  have F_law_take := fun_mk (st := s_law_take) l_law_take c_law_take k_law_take
  have b_law_take := F_law_take.binds (ps := ["_law_draw", "_law_size"]) fun _ _ _ _ _ _ us hl => match us, hl with | [_, _], _ => rfl
  have F_law_pick := fun_mk (st := s_law_pick) l_law_pick c_law_pick k_law_pick
  have b_law_pick := F_law_pick.binds (ps := ["_law_draw", "_law_some"]) fun _ _ _ _ _ _ us hl => match us, hl with | [_, _], _ => rfl
  have F_law_divided := fun_mk (st := s_law_divided) l_law_divided c_law_divided k_law_divided
  have b_law_divided := F_law_divided.binds (ps := ["_law_top_here", "_law_bottom_here"]) fun _ _ _ _ _ _ us hl => match us, hl with | [_, _], _ => rfl
  have F_law_by := fun_mk (st := s_law_by) l_law_by c_law_by k_law_by
  have b_law_by := F_law_by.binds (ps := ["_law_one", "_law_other"]) fun _ _ _ _ _ _ us hl => match us, hl with | [_, _], _ => rfl
  have F_law_plus := fun_mk (st := s_law_plus) l_law_plus c_law_plus k_law_plus
  have b_law_plus := F_law_plus.binds (ps := ["_law_one", "_law_other"]) fun _ _ _ _ _ _ us hl => match us, hl with | [_, _], _ => rfl
  have F_law_is_good := fun_mk (st := s_law_is_good) l_law_is_good c_law_is_good k_law_is_good
  have b_law_is_good := F_law_is_good.binds (ps := ["_law_thing_here"]) fun _ _ _ _ _ _ us hl => match us, hl with | [_], _ => rfl
  have F_law_lists_right := fun_mk (st := s_law_lists_right) l_law_lists_right c_law_lists_right k_law_lists_right
  have b_law_lists_right := F_law_lists_right.binds (ps := ["_law_draw", "_law_some"]) fun _ _ _ _ _ _ us hl => match us, hl with | [_, _], _ => rfl
  have F_law_odd := fun_mk (st := s_law_odd) l_law_odd c_law_odd k_law_odd
  have b_law_odd := F_law_odd.binds (ps := ["_law_draw"]) fun _ _ _ _ _ _ us hl => match us, hl with | [_], _ => rfl
  have F_law_near := fun_mk (st := s_law_near) l_law_near c_law_near k_law_near
  have b_law_near := F_law_near.binds (ps := ["_law_draw", "_law_pair"]) fun _ _ _ _ _ _ us hl => match us, hl with | [_, _], _ => rfl
  have F_law_number := fun_mk (st := s_law_number) l_law_number c_law_number k_law_number
  have b_law_number := F_law_number.binds (ps := ["_law_draw"]) fun _ _ _ _ _ _ us hl => match us, hl with | [_], _ => rfl
  have F_law := fun_mk (st := s_law) l_law c_law k_law
  have b_law := F_law.binds (ps := ["_law_script"]) fun _ _ _ _ _ _ us hl => match us, hl with | [_], _ => rfl
  refine ⟨PySem.W.fnOf "law" "law" (defArgs s_law) (defBody s_law) (defScope s_law) .none kV_law dc_law pm_law an_law (.ref ca_law) ct_law, [(ca_law_lists_right, pa_law_lists_right), (ca_law, pa_law)], spL ⟨K, mg⟩ law, ?_, fun s v => .of_eq rfl, fun H a ns ok hT hS => ⟨a, ns, rfl, hS, ?_, hp ns ok.1 ok.2, fun _ => rfl⟩, fun base KB NB sm TB => ?_⟩
  · intro p hp
    simp only [List.mem_cons, List.not_mem_nil, or_false] at hp
    rcases hp with rfl | rfl
    · exact ⟨tb pa_law_lists_right (List.mem_of_getElem? mT_law_lists_right), nT_law_lists_right, PySem.W.codeHd_of_K X ch_law_lists_right⟩
    · exact ⟨tb pa_law (List.mem_of_getElem? mT_law), nT_law, PySem.W.codeHd_of_K X ch_law⟩
  · intro p hp
    have hp : p ∈ [(pa_law_lists_right, ("_law_lists_right" : Str) ++ ".<locals>." ++ "<lambda>"), (pa_law, ("law" : Str) ++ ".<locals>." ++ "<lambda>")] := hp
    simp only [List.mem_cons, List.not_mem_nil, or_false] at hp
    rcases hp with rfl | rfl
    · exact LamX.TabS.nil (hT (ca_law_lists_right, pa_law_lists_right) (by simp))
    · exact LamX.TabS.nil (hT (ca_law, pa_law) (by simp))
  have F_BadNumber_init := fun_mk (st := s_BadNumber_init) l_BadNumber_init c_BadNumber_init k_BadNumber_init
  have b_BadNumber_init := F_BadNumber_init.binds (ps := ["self", "number"]) fun _ _ _ _ _ _ us hl => match us, hl with | [_, _], _ => rfl
  have Ox_BadNumber : OexC K C_BadNumber := ⟨⟨_, _, _, _, _, _, _, _, _, _, _, _, _, _, _, lk_BadNumber, ki_rv_BadNumber⟩, xsa_BadNumber, xex_BadNumber, xty_BadNumber, xkc_BadNumber⟩
  have o_BadNumber_init := xinit_ok (P := l.prog) (w := w) (mg := mg) (base := base) F_BadNumber_init sc_BadNumber_init Ox_BadNumber xno_BadNumber rfl (.inl rfl) (.inl rfl)
  have qx_BadNumber : XcD l.prog w K mg base "BadNumber" "number" := ⟨⟨C_BadNumber, f_BadNumber_init, _, _, mC_BadNumber, Ox_BadNumber, a_BadNumber_init, xti_BadNumber_init, o_BadNumber_init, b_BadNumber_init⟩⟩
  have o_law_begun := ok_law_begun (P := l.prog) (w := w) (base := base) G F_law_begun
  have o_divisor_of := ok_divisor_of (P := l.prog) (w := w) (base := base) G F_divisor_of
  have q_divisor_of : CalD l.prog w K mg base 2 "divisor_of" 2 [] D_divisor_of := ⟨⟨_, _, _, [], [], o_divisor_of, PySem.W.mg_of X G0 a_divisor_of, k_divisor_of, b_divisor_of, .nil, fun _ _ => .nil⟩⟩
  have o_divided := ok_divided (P := l.prog) (w := w) (base := base) G F_divided q_divisor_of
  have q_divided : CalD l.prog w K mg base 3 "divided" 2 [] D_divided := ⟨⟨_, _, _, [], [], o_divided, PySem.W.mg_of X G0 a_divided, k_divided, b_divided, .nil, fun _ _ => .nil⟩⟩
  have o_plus := ok_plus (P := l.prog) (w := w) (base := base) G F_plus q_divided
  have q_plus : CalD l.prog w K mg base 4 "plus" 2 [] D_plus := ⟨⟨_, _, _, [], [], o_plus, PySem.W.mg_of X G0 a_plus, k_plus, b_plus, .nil, fun _ _ => .nil⟩⟩
  have o_is_number := ok_is_number (P := l.prog) (w := w) (base := base) G F_is_number
  have q_is_number : CalD l.prog w K mg base 2 "is_number" 1 [] D_is_number := ⟨⟨_, _, _, [], [], o_is_number, PySem.W.mg_of X G0 a_is_number, k_is_number, b_is_number, .nil, fun _ _ => .nil⟩⟩
  have o_is_fraction := ok_is_fraction (P := l.prog) (w := w) (base := base) G F_is_fraction q_divisor_of q_is_number
  have q_is_fraction : CalD l.prog w K mg base 3 "is_fraction" 1 [] D_is_fraction := ⟨⟨_, _, _, [], [], o_is_fraction, PySem.W.mg_of X G0 a_is_fraction, k_is_fraction, b_is_fraction, .nil, fun _ _ => .nil⟩⟩
  have q_cw_is_fraction_thing : CkwD l.prog w K mg base 3 "is_fraction" 1 ["thing"] [0] D_is_fraction := ⟨⟨_, _, _, PySem.W.mg_of X G0 a_is_fraction, k_is_fraction, o_is_fraction, fun s ws _ hl => match ws, hl with | [_], _ => .of_eq rfl⟩⟩
  have o_need_fractions := ok_need_fractions (P := l.prog) (w := w) (base := base) G F_need_fractions q_is_fraction
  have q_need_fractions : CalD l.prog w K mg base 4 "need_fractions" 1 [] D_need_fractions := ⟨⟨_, _, _, [], [], o_need_fractions, PySem.W.mg_of X G0 a_need_fractions, k_need_fractions, b_need_fractions, .nil, fun _ _ => .nil⟩⟩
  have ox_need_fractions := okx_need_fractions (P := l.prog) (w := w) (base := base) G F_need_fractions qx_BadNumber q_is_fraction
  have qx_c_need_fractions : XalD l.prog w K mg base 4 "need_fractions" 1 [] X_need_fractions := ⟨⟨_, _, _, [], [], ox_need_fractions, PySem.W.mg_of X G0 a_need_fractions, k_need_fractions, b_need_fractions, .nil, fun _ _ => .nil⟩⟩
  have o_added := ok_added (P := l.prog) (w := w) (base := base) G F_added q_plus q_need_fractions
  have q_added : CalD l.prog w K mg base 5 "added" 1 [] D_added := ⟨⟨_, _, _, [], [], o_added, PySem.W.mg_of X G0 a_added, k_added, b_added, .nil, fun _ _ => .nil⟩⟩
  have ox_added := okx_added (P := l.prog) (w := w) (base := base) G F_added qx_c_need_fractions
  have q_cw_added_fractions : CkwD l.prog w K mg base 5 "added" 1 ["fractions"] [0] D_added := ⟨⟨_, _, _, PySem.W.mg_of X G0 a_added, k_added, o_added, fun s ws _ hl => match ws, hl with | [_], _ => .of_eq rfl⟩⟩
  have qx_kw_added_fractions : XkwD l.prog w K mg base 5 "added" 1 ["fractions"] [0] X_added := ⟨⟨_, _, _, PySem.W.mg_of X G0 a_added, k_added, ox_added, fun s ws _ hl => match ws, hl with | [_], _ => .of_eq rfl⟩⟩
  have qx_c_added : XalD l.prog w K mg base 5 "added" 1 [] X_added := ⟨⟨_, _, _, [], [], ox_added, PySem.W.mg_of X G0 a_added, k_added, b_added, .nil, fun _ _ => .nil⟩⟩
  have o_lam_0 := ok_lam_0 (P := l.prog) (w := w) (base := base) G qx_c_added q_added
  have ox_lam_0 := okx_lam_0 (P := l.prog) (w := w) (base := base) G qx_c_added q_added
  have o_times := ok_times (P := l.prog) (w := w) (base := base) G F_times q_divided
  have q_times : CalD l.prog w K mg base 4 "times" 2 [] D_times := ⟨⟨_, _, _, [], [], o_times, PySem.W.mg_of X G0 a_times, k_times, b_times, .nil, fun _ _ => .nil⟩⟩
  have o_multiplied := ok_multiplied (P := l.prog) (w := w) (base := base) G F_multiplied q_times q_need_fractions
  have q_multiplied : CalD l.prog w K mg base 5 "multiplied" 1 [] D_multiplied := ⟨⟨_, _, _, [], [], o_multiplied, PySem.W.mg_of X G0 a_multiplied, k_multiplied, b_multiplied, .nil, fun _ _ => .nil⟩⟩
  have ox_multiplied := okx_multiplied (P := l.prog) (w := w) (base := base) G F_multiplied qx_c_need_fractions
  have q_cw_multiplied_fractions : CkwD l.prog w K mg base 5 "multiplied" 1 ["fractions"] [0] D_multiplied := ⟨⟨_, _, _, PySem.W.mg_of X G0 a_multiplied, k_multiplied, o_multiplied, fun s ws _ hl => match ws, hl with | [_], _ => .of_eq rfl⟩⟩
  have qx_kw_multiplied_fractions : XkwD l.prog w K mg base 5 "multiplied" 1 ["fractions"] [0] X_multiplied := ⟨⟨_, _, _, PySem.W.mg_of X G0 a_multiplied, k_multiplied, ox_multiplied, fun s ws _ hl => match ws, hl with | [_], _ => .of_eq rfl⟩⟩
  have qx_c_multiplied : XalD l.prog w K mg base 5 "multiplied" 1 [] X_multiplied := ⟨⟨_, _, _, [], [], ox_multiplied, PySem.W.mg_of X G0 a_multiplied, k_multiplied, b_multiplied, .nil, fun _ _ => .nil⟩⟩
  have o_lam_1 := ok_lam_1 (P := l.prog) (w := w) (base := base) G qx_c_multiplied q_multiplied
  have ox_lam_1 := okx_lam_1 (P := l.prog) (w := w) (base := base) G qx_c_multiplied q_multiplied
  have o_lam_2 := ok_lam_2 (P := l.prog) (w := w) (base := base) G qx_kw_added_fractions q_cw_added_fractions
  have ox_lam_2 := okx_lam_2 (P := l.prog) (w := w) (base := base) G qx_kw_added_fractions q_cw_added_fractions
  have o_lam_3 := ok_lam_3 (P := l.prog) (w := w) (base := base) G qx_kw_multiplied_fractions q_cw_multiplied_fractions
  have ox_lam_3 := okx_lam_3 (P := l.prog) (w := w) (base := base) G qx_kw_multiplied_fractions q_cw_multiplied_fractions
  have o_fraction := ok_fraction (P := l.prog) (w := w) (base := base) G F_fraction q_divided q_is_number
  obtain ⟨ds_fraction_1, vd_fraction_1, bd_fraction_1⟩ := F_fraction.binds1 (ps := ["top", "bottom"]) 1 0 (by simp) rfl (fun T kV doc pm an cdv ct us its h1 h2 => match us, its, h1, h2 with | [_], [_], _, _ => ⟨_, rfl, rfl⟩)
  have q_fraction_1 : CalD l.prog w K mg base 4 "fraction" 2 [.int 1] D_fraction := ⟨⟨_, _, _, ds_fraction_1, [.int 1], o_fraction, PySem.W.mg_of X G0 a_fraction, k_fraction, bd_fraction_1, vd_fraction_1, fun da G => (.cons (rE0_fraction da G) .nil)⟩⟩
  obtain ⟨ik_fractionbottom_top, kn_fractionbottom_top⟩ := F_fraction.kbindsD (ps := ["top", "bottom"]) 0 ["bottom", "top"] (fun {α} (us its ws : List α) => pickL [1, 0] ws) (by simp) (fun _ _ r => vals_pickL r _) (fun T kV doc pm an cdv ct us its ws h1 h2 h3 => match us, its, ws, h1, h2, h3 with | [], [_], [_, _], _, _, _ => ⟨_, rfl, rfl⟩)
  have kwd_fraction_bottom_top : ∀ (s : Shared) (ws : List Value), K.In s.heap → ws.length = 2 → BindsTo s _ ⟨[], (["bottom", "top"] : List Str).zip ws⟩ ((["top", "bottom"] : List Str).zip (pickL [1, 0] ws)) := fun s ws X0 hl => kn_fractionbottom_top.to s [] ws X0 rfl hl
  obtain ⟨ds_fraction_2, vd_fraction_2, bd_fraction_2⟩ := F_fraction.binds1 (ps := ["top", "bottom"]) 2 1 (by simp) rfl (fun T kV doc pm an cdv ct us its h1 h2 => match us, its, h1, h2 with | [_, _], [_], _, _ => ⟨_, rfl, rfl⟩)
  cases (show Vals [] ds_fraction_2 from vd_fraction_2)
  have b_fraction := bd_fraction_2
  have q_fraction : CalD l.prog w K mg base 4 "fraction" 2 [] D_fraction := ⟨⟨_, _, _, [], [], o_fraction, PySem.W.mg_of X G0 a_fraction, k_fraction, b_fraction, .nil, fun _ _ => .nil⟩⟩
  have ox_fraction := okx_fraction (P := l.prog) (w := w) (base := base) G F_fraction qx_BadNumber q_is_number
  have q_cw_fraction_bottom_top : CkwD l.prog w K mg base 4 "fraction" 2 ["bottom", "top"] [1, 0] D_fraction := ⟨⟨_, _, _, PySem.W.mg_of X G0 a_fraction, k_fraction, o_fraction, kwd_fraction_bottom_top⟩⟩
  have qx_kw_fraction_bottom_top : XkwD l.prog w K mg base 3 "fraction" 2 ["bottom", "top"] [1, 0] X_fraction := ⟨⟨_, _, _, PySem.W.mg_of X G0 a_fraction, k_fraction, ox_fraction, kwd_fraction_bottom_top⟩⟩
  have qx_c_fraction : XalD l.prog w K mg base 3 "fraction" 2 [] X_fraction := ⟨⟨_, _, _, [], [], ox_fraction, PySem.W.mg_of X G0 a_fraction, k_fraction, b_fraction, .nil, fun _ _ => .nil⟩⟩
  have o_lam_4 := ok_lam_4 (P := l.prog) (w := w) (base := base) G qx_c_fraction q_fraction
  have ox_lam_4 := okx_lam_4 (P := l.prog) (w := w) (base := base) G qx_c_fraction q_fraction
  have o_lam_5 := ok_lam_5 (P := l.prog) (w := w) (base := base) G qx_c_fraction q_fraction
  have ox_lam_5 := okx_lam_5 (P := l.prog) (w := w) (base := base) G qx_c_fraction q_fraction
  have o_lam_6 := ok_lam_6 (P := l.prog) (w := w) (base := base) G qx_c_added q_added
  have ox_lam_6 := okx_lam_6 (P := l.prog) (w := w) (base := base) G qx_c_added q_added
  have o_lam_7 := ok_lam_7 (P := l.prog) (w := w) (base := base) G qx_c_multiplied q_multiplied
  have ox_lam_7 := okx_lam_7 (P := l.prog) (w := w) (base := base) G qx_c_multiplied q_multiplied
  have o_lam_8 := ok_lam_8 (P := l.prog) (w := w) (base := base) G qx_c_fraction q_fraction
  have ox_lam_8 := okx_lam_8 (P := l.prog) (w := w) (base := base) G qx_c_fraction q_fraction
  have o_lam_9 := ok_lam_9 (P := l.prog) (w := w) (base := base) G qx_kw_fraction_bottom_top q_cw_fraction_bottom_top
  have ox_lam_9 := okx_lam_9 (P := l.prog) (w := w) (base := base) G qx_kw_fraction_bottom_top q_cw_fraction_bottom_top
  have LT : LamT l.prog w K mg base 6 tabL := ⟨fun n s h => match n, h with
    | 0, h => by
      have h : some l_0 = some s := h
      cases h
      exact o_lam_0.mono (by decide)
    | 1, h => by
      have h : some l_1 = some s := h
      cases h
      exact o_lam_1.mono (by decide)
    | 2, h => by
      have h : some l_2 = some s := h
      cases h
      exact o_lam_2.mono (by decide)
    | 3, h => by
      have h : some l_3 = some s := h
      cases h
      exact o_lam_3.mono (by decide)
    | 4, h => by
      have h : some l_4 = some s := h
      cases h
      exact o_lam_4.mono (by decide)
    | 5, h => by
      have h : some l_5 = some s := h
      cases h
      exact o_lam_5.mono (by decide)
    | 6, h => by
      have h : some l_6 = some s := h
      cases h
      exact o_lam_6.mono (by decide)
    | 7, h => by
      have h : some l_7 = some s := h
      cases h
      exact o_lam_7.mono (by decide)
    | 8, h => by
      have h : some l_8 = some s := h
      cases h
      exact o_lam_8.mono (by decide)
    | 9, h => by
      have h : some l_9 = some s := h
      cases h
      exact o_lam_9.mono (by decide)
    | n + 10, h => by
      have h : (none : Option LamSyn) = some s := h
      cases h⟩
  have LX : LamTX l.prog w K mg base 6 tabX := ⟨fun n s h => match n, h with
    | 0, h => by
      have h : some l_0 = some s := h
      cases h
      exact ox_lam_0.mono (by decide)
    | 1, h => by
      have h : some l_1 = some s := h
      cases h
      exact ox_lam_1.mono (by decide)
    | 2, h => by
      have h : some l_2 = some s := h
      cases h
      exact ox_lam_2.mono (by decide)
    | 3, h => by
      have h : some l_3 = some s := h
      cases h
      exact ox_lam_3.mono (by decide)
    | 4, h => by
      have h : some l_4 = some s := h
      cases h
      exact ox_lam_4.mono (by decide)
    | 5, h => by
      have h : some l_5 = some s := h
      cases h
      exact ox_lam_5.mono (by decide)
    | 6, h => by
      have h : some l_6 = some s := h
      cases h
      exact ox_lam_6.mono (by decide)
    | 7, h => by
      have h : some l_7 = some s := h
      cases h
      exact ox_lam_7.mono (by decide)
    | 8, h => by
      have h : some l_8 = some s := h
      cases h
      exact ox_lam_8.mono (by decide)
    | 9, h => by
      have h : some l_9 = some s := h
      cases h
      exact ox_lam_9.mono (by decide)
    | n + 10, h => by
      have h : (none : Option LamSyn) = some s := h
      cases h⟩
  have o_law_told := ok_law_told (P := l.prog) (w := w) (base := base) G F_law_told LT LX
  have q_law_told : CalD l.prog w K mg base 7 "_law_told" 1 [] D_law_told := ⟨⟨_, _, _, [], [], o_law_told, PySem.W.mg_of X G0 a_law_told, k_law_told, b_law_told, .nil, fun _ _ => .nil⟩⟩
  have o_law_mixed := ok_law_mixed (P := l.prog) (w := w) (base := base) G F_law_mixed
  have q_law_mixed : CalD l.prog w K mg base 2 "_law_mixed" 1 [] D_law_mixed := ⟨⟨_, _, _, [], [], o_law_mixed, PySem.W.mg_of X G0 a_law_mixed, k_law_mixed, b_law_mixed, .nil, fun _ _ => .nil⟩⟩
  have o_law_take := ok_law_take (P := l.prog) (w := w) (base := base) G F_law_take q_law_mixed
  have q_law_take : CalD l.prog w K mg base 3 "_law_take" 2 [] D_law_take := ⟨⟨_, _, _, [], [], o_law_take, PySem.W.mg_of X G0 a_law_take, k_law_take, b_law_take, .nil, fun _ _ => .nil⟩⟩
  have o_law_pick := ok_law_pick (P := l.prog) (w := w) (base := base) G F_law_pick q_law_take
  have q_law_pick : CalD l.prog w K mg base 4 "_law_pick" 2 [] D_law_pick := ⟨⟨_, _, _, [], [], o_law_pick, PySem.W.mg_of X G0 a_law_pick, k_law_pick, b_law_pick, .nil, fun _ _ => .nil⟩⟩
  have o_law_divided := ok_law_divided (P := l.prog) (w := w) (base := base) G F_law_divided
  have q_law_divided : CalD l.prog w K mg base 2 "_law_divided" 2 [] D_law_divided := ⟨⟨_, _, _, [], [], o_law_divided, PySem.W.mg_of X G0 a_law_divided, k_law_divided, b_law_divided, .nil, fun _ _ => .nil⟩⟩
  have o_law_by := ok_law_by (P := l.prog) (w := w) (base := base) G F_law_by q_law_divided
  have q_law_by : CalD l.prog w K mg base 3 "_law_by" 2 [] D_law_by := ⟨⟨_, _, _, [], [], o_law_by, PySem.W.mg_of X G0 a_law_by, k_law_by, b_law_by, .nil, fun _ _ => .nil⟩⟩
  have o_law_plus := ok_law_plus (P := l.prog) (w := w) (base := base) G F_law_plus q_law_divided
  have q_law_plus : CalD l.prog w K mg base 3 "_law_plus" 2 [] D_law_plus := ⟨⟨_, _, _, [], [], o_law_plus, PySem.W.mg_of X G0 a_law_plus, k_law_plus, b_law_plus, .nil, fun _ _ => .nil⟩⟩
  have o_law_is_good := ok_law_is_good (P := l.prog) (w := w) (base := base) G F_law_is_good q_law_divided
  have q_law_is_good : CalD l.prog w K mg base 3 "_law_is_good" 1 [] D_law_is_good := ⟨⟨_, _, _, [], [], o_law_is_good, PySem.W.mg_of X G0 a_law_is_good, k_law_is_good, b_law_is_good, .nil, fun _ _ => .nil⟩⟩
  have o_law_lists_right := ok_law_lists_right (P := l.prog) (w := w) (base := base) G F_law_lists_right sm q_law_told q_law_by q_law_plus q_law_is_good rfl rfl rfl rfl (TB (ca_law_lists_right, pa_law_lists_right) (by simp)) (fun _ _ _ _ _ _ _ _ _ z => by rw [l_law_lists_right] at z; cases z; rfl) (show (pa_law_lists_right, ("_law_lists_right" : Str) ++ ".<locals>." ++ "<lambda>") ∈ [(pa_law_lists_right, ("_law_lists_right" : Str) ++ ".<locals>." ++ "<lambda>"), (pa_law, ("law" : Str) ++ ".<locals>." ++ "<lambda>")] by simp) (fun p hp e => by
      have hp : p ∈ [(pa_law_lists_right, ("_law_lists_right" : Str) ++ ".<locals>." ++ "<lambda>"), (pa_law, ("law" : Str) ++ ".<locals>." ++ "<lambda>")] := hp
      simp only [List.mem_cons, List.not_mem_nil, or_false] at hp
      rcases hp with rfl | rfl
      · rfl
      · exact absurd e ne_law_law_lists_right)
  have q_law_lists_right : CalG l.prog w K mg base 8 "_law_lists_right" 2 D_law_lists_right := ⟨⟨_, _, _, o_law_lists_right, PySem.W.mg_of X G0 a_law_lists_right, k_law_lists_right, b_law_lists_right⟩⟩
  have o_law_odd := ok_law_odd (P := l.prog) (w := w) (base := base) G F_law_odd q_law_pick
  have q_law_odd : CalD l.prog w K mg base 5 "_law_odd" 1 [] D_law_odd := ⟨⟨_, _, _, [], [], o_law_odd, PySem.W.mg_of X G0 a_law_odd, k_law_odd, b_law_odd, .nil, fun _ _ => .nil⟩⟩
  have o_law_near := ok_law_near (P := l.prog) (w := w) (base := base) G F_law_near q_law_pick q_law_odd
  have q_law_near : CalD l.prog w K mg base 6 "_law_near" 2 [] D_law_near := ⟨⟨_, _, _, [], [], o_law_near, PySem.W.mg_of X G0 a_law_near, k_law_near, b_law_near, .nil, fun _ _ => .nil⟩⟩
  have o_law_number := ok_law_number (P := l.prog) (w := w) (base := base) G F_law_number q_law_take q_law_pick
  have q_law_number : CalD l.prog w K mg base 5 "_law_number" 1 [] D_law_number := ⟨⟨_, _, _, [], [], o_law_number, PySem.W.mg_of X G0 a_law_number, k_law_number, b_law_number, .nil, fun _ _ => .nil⟩⟩
  have e2 := l_law
  exact ok_law G F_law o_law_begun (PySem.W.mg_of X G0 a_law_begun) k_law_begun b_law_begun sm q_law_told q_law_pick q_law_lists_right q_law_take q_law_near q_multiplied q_added q_law_divided q_law_number q_cw_is_fraction_thing q_is_fraction q_law_is_good q_fraction_1 rfl rfl rfl rfl rfl rfl (TB (ca_law, pa_law) (by simp)) (fun _ _ _ _ _ _ _ _ _ z => by rw [l_law] at z; cases z; rfl) (show (pa_law, ("law" : Str) ++ ".<locals>." ++ "<lambda>") ∈ [(pa_law_lists_right, ("_law_lists_right" : Str) ++ ".<locals>." ++ "<lambda>"), (pa_law, ("law" : Str) ++ ".<locals>." ++ "<lambda>")] by simp) (fun p hp e => by
      have hp : p ∈ [(pa_law_lists_right, ("_law_lists_right" : Str) ++ ".<locals>." ++ "<lambda>"), (pa_law, ("law" : Str) ++ ".<locals>." ++ "<lambda>")] := hp
      simp only [List.mem_cons, List.not_mem_nil, or_false] at hp
      rcases hp with rfl | rfl
      · exact absurd e ne_law_lists_right_law
      · rfl)
end KL

end sec_Asm
section sec_EV
set_option maxRecDepth 100000
set_option maxHeartbeats 5000000
/-! EV: running denotations by plain rules. -/
namespace FD
open PySem L2
local instance tl0 : Tabl := { T := [] }
def R {α : Type} (f : M α) (ρ : Env) (w : W) (Q : α → Env → W → Prop) : Prop := ∃ a ρ' w', f ρ w = some (a, ρ', w') ∧ Q a ρ' w'
section
variable {α β : Type} {f : M α} {ρ : Env} {w : W} {d d1 d2 : D} {i : Nat} {r r1 r2 : RV}
theorem R.mono {Q Q' : α → Env → W → Prop} (h : R f ρ w Q) (k : ∀ a ρ' w', Q a ρ' w' → Q' a ρ' w') : R f ρ w Q' := let ⟨a, ρ', w', e, q⟩ := h; ⟨a, ρ', w', e, k _ _ _ q⟩
theorem R_some {a : α} {ρ' : Env} {w' : W} {Q : α → Env → W → Prop} (h : f ρ w = some (a, ρ', w')) : R f ρ w Q ↔ Q a ρ' w' :=
  ⟨fun ⟨_, _, _, e, q⟩ => by rw [h] at e; cases e; exact q, fun q => ⟨_, _, _, h, q⟩⟩
@[simp] theorem R_pure {a : α} {Q : α → Env → W → Prop} : R (pureM a) ρ w Q ↔ Q a ρ w := R_some rfl
@[simp] theorem R_bind {k : α → M β} {Q : β → Env → W → Prop} : R (bindM f k) ρ w Q ↔ R f ρ w fun a ρ' w' => R (k a) ρ' w' Q := by
  constructor
  · rintro ⟨b, ρ', w', e, q⟩
    obtain ⟨a, ρ1, w1, e1, e2⟩ := bindM_some e
    exact ⟨a, ρ1, w1, e1, b, ρ', w', e2, q⟩
  · rintro ⟨a, ρ1, w1, e1, b, ρ', w', e2, q⟩
    refine ⟨b, ρ', w', ?_, q⟩
    unfold bindM
    rw [e1]
    exact e2
@[simp] theorem R_if {b : Prop} [Decidable b] {f g : M α} {Q : α → Env → W → Prop} : R (if b then f else g) ρ w Q ↔ if b then R f ρ w Q else R g ρ w Q := by
  split <;> exact Iff.rfl
theorem R_var {Q : RV → Env → W → Prop} (h : ρ[i]? = some (some (.val d))) : R (varM i) ρ w Q ↔ Q (.sh d) ρ w := R_some (by unfold varM; rw [h])
theorem R_own {Q : RV → Env → W → Prop} (h : ρ[i]? = some (some (.own d))) : R (varM i) ρ w Q ↔ Q (.ow i) ρ w := R_some (by unfold varM; rw [h])
@[simp] theorem R_lift2 {g : D → D → Option RV} {Q : RV → Env → W → Prop} : R (lift2 g (.sh d1) (.sh d2)) ρ w Q ↔ ∃ r, g d1 d2 = some r ∧ Q r ρ w := by
  constructor
  · rintro ⟨a, ρ', w', e, q⟩
    obtain ⟨a1, a2, r, p1, p2, eg, ez⟩ := lift2_some e
    cases p1
    cases p2
    cases ez
    exact ⟨_, eg, q⟩
  · rintro ⟨r, eg, q⟩
    exact ⟨r, ρ, w, by simp [lift2, peek, eg], q⟩
theorem R_lift2' {g : D → D → Option RV} {Q : RV → Env → W → Prop} (p1 : peek ρ r1 = some d1) (p2 : peek ρ r2 = some d2) : R (lift2 g r1 r2) ρ w Q ↔ ∃ r, g d1 d2 = some r ∧ Q r ρ w := by
  constructor
  · rintro ⟨a, ρ', w', e, q⟩
    obtain ⟨a1, a2, r, q1, q2, eg, ez⟩ := lift2_some e
    rw [p1] at q1
    rw [p2] at q2
    cases q1
    cases q2
    cases ez
    exact ⟨_, eg, q⟩
  · rintro ⟨r, eg, q⟩
    exact ⟨r, ρ, w, by simp [lift2, p1, p2, eg], q⟩
theorem R_lift1' {g : D → Option RV} {Q : RV → Env → W → Prop} (p1 : peek ρ r1 = some d1) : R (lift1 g r1) ρ w Q ↔ ∃ r, g d1 = some r ∧ Q r ρ w := by
  constructor
  · rintro ⟨a, ρ', w', e, q⟩
    obtain ⟨a1, r, q1, eg, ez⟩ := lift1_some e
    rw [p1] at q1
    cases q1
    cases ez
    exact ⟨_, eg, q⟩
  · rintro ⟨r, eg, q⟩
    exact ⟨r, ρ, w, by simp [lift1, p1, eg], q⟩
@[simp] theorem R_lift1 {g : D → Option RV} {Q : RV → Env → W → Prop} : R (lift1 g (.sh d1)) ρ w Q ↔ ∃ r, g d1 = some r ∧ Q r ρ w := R_lift1' rfl
theorem R_liftN {g : List D → Option RV} {rs : List RV} {ds : List D} {Q : RV → Env → W → Prop} (p1 : peeks ρ rs = some ds) : R (liftN g rs) ρ w Q ↔ ∃ r, g ds = some r ∧ Q r ρ w := by
  constructor
  · rintro ⟨a, ρ', w', e, q⟩
    obtain ⟨a1, r, q1, eg, ez⟩ := liftN_some e
    rw [p1] at q1
    cases q1
    cases ez
    exact ⟨_, eg, q⟩
  · rintro ⟨r, eg, q⟩
    exact ⟨r, ρ, w, by simp [liftN, p1, eg], q⟩
@[simp] theorem R_bool {f : M RV} {Q : Bool → Env → W → Prop} : R (boolM f) ρ w Q ↔ R f ρ w fun r ρ' w' => ∃ b, r = .sh (.bl b) ∧ Q b ρ' w' := by
  unfold boolM
  rw [R_bind]
  constructor
  · rintro ⟨r, ρ1, w1, e1, b, ρ', w', e2, q⟩
    obtain ⟨b', er, ez⟩ := boolM_some e2
    obtain ⟨z1, z2, z3⟩ := ez
    exact ⟨r, ρ1, w1, e1, _, er, q⟩
  · rintro ⟨r, ρ1, w1, e1, b, rfl, q⟩
    exact ⟨_, ρ1, w1, e1, b, ρ1, w1, rfl, q⟩
@[simp] theorem R_escsh {Q : D → Env → W → Prop} : R (escR (.sh d)) ρ w Q ↔ Q d ρ w := R_some rfl
@[simp] theorem R_escfr {Q : D → Env → W → Prop} : R (escR (.fr d)) ρ w Q ↔ Q d ρ w := R_some rfl
@[simp] theorem R_escn {Q : List D → Env → W → Prop} : R (escAll []) ρ w Q ↔ Q [] ρ w := R_some rfl
@[simp] theorem R_escc {rs : List RV} {Q : List D → Env → W → Prop} : R (escAll (r :: rs)) ρ w Q ↔ R (escR r) ρ w fun d ρ' w' => R (escAll rs) ρ' w' fun ds ρ2 w2 => Q (d :: ds) ρ2 w2 := by
  show R (bindM (escR r) fun d => bindM (escAll rs) fun ds => pureM (d :: ds)) ρ w Q ↔ _
  simp
@[simp] theorem R_setM {s : Slot} {Q : Unit → Env → W → Prop} : R (setM i s) ρ w Q ↔ Q () (ρ.set i (some s)) w := R_some rfl
@[simp] theorem R_asgfr {Q : Unit → Env → W → Prop} : R (asgM i (.fr d)) ρ w Q ↔ Q () (ρ.set i (some (.own d))) w := R_some rfl
@[simp] theorem R_asgsh {Q : Unit → Env → W → Prop} : R (asgM i (.sh d)) ρ w Q ↔ Q () (ρ.set i (some (.val d))) w := R_some rfl
@[simp] theorem R_drI {g : W → Int} {fo : M RV} {Q : RV → Env → W → Prop} : R (drI g fo) ρ w Q ↔ R fo ρ w fun r ρ' w' => r = .sh .draw ∧ Q (.sh (.int (g w'))) ρ' w' := by
  unfold drI
  rw [R_bind]
  constructor
  · rintro ⟨r, ρ1, w1, e1, b, ρ', w', e2, q⟩
    split at e2
    · cases e2
      exact ⟨_, ρ1, w1, e1, rfl, q⟩
    · cases e2
  · rintro ⟨r, ρ1, w1, e1, rfl, q⟩
    exact ⟨_, ρ1, w1, e1, _, ρ1, w1, rfl, q⟩
def Ran {β : Type} (o : Option (β × W)) (Q : β → W → Prop) : Prop := ∃ r w', o = some (r, w') ∧ Q r w'
@[simp] theorem Ran_some {β : Type} {a : β} {Q : β → W → Prop} : Ran (some (a, w)) Q ↔ Q a w := ⟨fun ⟨_, _, e, q⟩ => by cases e; exact q, fun q => ⟨_, _, rfl, q⟩⟩
theorem Ran.mono {β : Type} {o : Option (β × W)} {Q Q' : β → W → Prop} (h : Ran o Q) (k : ∀ a w', Q a w' → Q' a w') : Ran o Q' := let ⟨a, w', e, q⟩ := h; ⟨a, w', e, k _ _ q⟩
@[simp] theorem R_runD {den : List D → W → Option (RV × W)} {ds : List D} {Q : RV → Env → W → Prop} : R (runD den ds) ρ w Q ↔ Ran (den ds w) fun r w' => Q r ρ w' := by
  constructor
  · rintro ⟨a, ρ', w', e, q⟩
    obtain ⟨r, w2, e2, ez⟩ := runD_some e
    cases ez
    exact ⟨_, _, e2, q⟩
  · rintro ⟨r, w', e, q⟩
    exact ⟨r, ρ, w', by simp [runD, e], q⟩
/-- a def's denotation -/
theorem D_run {n : Nat} {body : M Fl} {ds : List D} {Q : RV → W → Prop} (h : R body (startE n ds) w fun fl ρ' w' => ∃ r', (match fl with | .ret r => outR ρ' r = some r' | .nx => r' = .sh .non | _ => False) ∧ Q r' w') : Ran (denB n body ds w) Q := by
  obtain ⟨fl, ρ', w', e, r', hr, q⟩ := h
  refine ⟨r', w', ?_, q⟩
  unfold denB
  rw [e]
  cases fl with
  | ret r =>
    have hr : outR ρ' r = some r' := hr
    simp [endB, hr]
  | nx =>
    have hr : r' = .sh .non := hr
    rw [hr]
    rfl
  | bk => exact hr.elim
  | ct => exact hr.elim
@[simp] theorem R_seq {f g : M Fl} {Q : Fl → Env → W → Prop} : R (seqM f g) ρ w Q ↔ R f ρ w fun fl ρ' w' => match fl with
    | .nx => R g ρ' w' Q
    | fl => Q fl ρ' w' := by
  unfold seqM
  rw [R_bind]
  constructor
  · intro h
    refine h.mono fun fl ρ' w' q => ?_
    cases fl with
    | nx => exact q
    | ret r => exact R_pure.mp q
    | bk => exact R_pure.mp q
    | ct => exact R_pure.mp q
  · intro h
    refine h.mono fun fl ρ' w' q => ?_
    cases fl with
    | nx => exact q
    | ret r => exact R_pure.mpr q
    | bk => exact R_pure.mpr q
    | ct => exact R_pure.mpr q
theorem eqD_int (a b : Int) : eqD (.int a) (.int b) = some (.sh (.bl (a == b))) := by
  simp [eqD, cmpD, toPy, SeqAt.shaped, PyData.canLay0, PyData.depth, PyData.eqv]
theorem neD_int (a b : Int) : neD (.int a) (.int b) = some (.sh (.bl (!(a == b)))) := by
  simp [neD, cmpD, toPy, SeqAt.shaped, PyData.canLay0, PyData.depth, PyData.eqv]
@[simp] theorem R_drT {g : W → Bool} {fo : M RV} {Q : Bool → Env → W → Prop} : R (drT g fo) ρ w Q ↔ R fo ρ w fun r ρ' w' => r = .sh .draw ∧ Q (g w') ρ' w' := by
  unfold drT
  rw [R_bind]
  constructor
  · rintro ⟨r, ρ1, w1, e1, b, ρ', w', e2, q⟩
    split at e2
    · cases e2
      exact ⟨_, ρ1, w1, e1, rfl, q⟩
    · cases e2
  · rintro ⟨r, ρ1, w1, e1, rfl, q⟩
    exact ⟨_, ρ1, w1, e1, _, ρ1, w1, rfl, q⟩
@[simp] theorem R_drSet {g : W → Int → W} {fv fo : M RV} {Q : Fl → Env → W → Prop} : R (drSet g fv fo) ρ w Q ↔ R fv ρ w fun r1 ρ1 w1 => R fo ρ1 w1 fun r ρ' w' => ∃ i, r1 = .sh (.int i) ∧ r = .sh .draw ∧ Q .nx ρ' (g w' i) := by
  unfold drSet
  rw [R_bind]
  constructor
  · rintro ⟨r1, ρ1, w1, e1, q⟩
    rw [R_bind] at q
    obtain ⟨r, ρ2, w2, e2, b, ρ', w', e3, q⟩ := q
    refine ⟨r1, ρ1, w1, e1, r, ρ2, w2, e2, ?_⟩
    split at e3
    · cases e3
      exact ⟨_, rfl, rfl, q⟩
    · cases e3
  · rintro ⟨r1, ρ1, w1, e1, r, ρ2, w2, e2, i, rfl, rfl, q⟩
    refine ⟨_, ρ1, w1, e1, ?_⟩
    exact R_bind.mpr ⟨_, ρ2, w2, e2, _, _, _, rfl, q⟩
theorem R_drPop {fo : M RV} {Q : RV → Env → W → Prop} (h : R fo ρ w fun r ρ' w' => r = .sh .draw ∧ ∃ x xs, w'.wide = x :: xs ∧ xs.length < 1000000 ∧ Q (.sh (.int x)) ρ' { w' with wide := xs }) : R (drPop fo) ρ w Q := by
  obtain ⟨r, ρ', w', e, rfl, x, xs, e1, e2, q⟩ := h
  refine ⟨_, ρ', _, ?_, q⟩
  unfold drPop bindM
  rw [e]
  simp [e1, e2]
theorem R_forL {g : D → M Unit} {body : M Fl} {Q : Fl → Env → W → Prop} (Inv : List D → Env → W → Prop) (step : ∀ d ds ρ w, Inv (d :: ds) ρ w → R (g d) ρ w fun _ ρ1 w1 => R body ρ1 w1 fun fl ρ2 w2 => match fl with
    | .nx => Inv ds ρ2 w2
    | .ct => Inv ds ρ2 w2
    | .bk => Q .nx ρ2 w2
    | .ret r => Q (.ret r) ρ2 w2) (fin : ∀ ρ w, Inv [] ρ w → Q .nx ρ w) : ∀ (ds : List D) (ρ : Env) (w : W), Inv ds ρ w → R (forL g body ds) ρ w Q
  | [], ρ, w, h => R_pure.mpr (fin ρ w h)
  | d :: ds, ρ, w, h => by
    show R (bindM (g d) fun _ => bindM body fun fl => match fl with
      | .nx => forL g body ds
      | .ct => forL g body ds
      | .bk => pureM .nx
      | .ret r => pureM (.ret r)) ρ w Q
    rw [R_bind]
    refine (step d ds ρ w h).mono fun _ ρ1 w1 q => ?_
    rw [R_bind]
    refine q.mono fun fl ρ2 w2 q => ?_
    cases fl with
    | nx => exact R_forL Inv step fin ds ρ2 w2 q
    | ct => exact R_forL Inv step fin ds ρ2 w2 q
    | bk => exact R_pure.mpr q
    | ret r => exact R_pure.mpr q
@[simp] theorem R_for {fi : M (List D)} {g : D → M Unit} {body : M Fl} {Q : Fl → Env → W → Prop} : R (forM fi g body) ρ w Q ↔ R fi ρ w fun ds ρ' w' => R (forL g body ds) ρ' w' Q := by
  unfold forM
  exact R_bind
@[simp] theorem R_gName {Q : Unit → Env → W → Prop} : R (gNameM i d) ρ w Q ↔ Q () (ρ.set i (some (.val d))) w := R_some rfl
@[simp] theorem R_drC {fo : M RV} {Q : List D → Env → W → Prop} : R (drC fo) ρ w Q ↔ R fo ρ w fun r ρ' w' => r = .sh .draw ∧ Q (w'.cells.map D.int) ρ' w' := by
  unfold drC
  rw [R_bind]
  constructor
  · rintro ⟨r, ρ1, w1, e1, b, ρ', w', e2, q⟩
    split at e2
    · cases e2
      exact ⟨_, ρ1, w1, e1, rfl, q⟩
    · cases e2
  · rintro ⟨r, ρ1, w1, e1, rfl, q⟩
    exact ⟨_, ρ1, w1, e1, _, ρ1, w1, rfl, q⟩
theorem R_iterF {ds : List D} {Q : List D → Env → W → Prop} (h : iterD d = some ds) : R (iterM (.fr d)) ρ w Q ↔ Q ds ρ w := R_some (by unfold iterM bindM; simp [escR, pureM, h])
theorem lg {i : Int} {n : Nat} (h0 : 0 ≤ i) (h : i < 2 ^ n) (hn : 0 < n) : i.natAbs.log2 < n := by
  rcases Nat.eq_zero_or_pos i.natAbs with z | z
  · rw [z]
    simpa using hn
  · refine (Nat.log2_lt (by omega)).mpr ?_
    have : (i.natAbs : Int) < 2 ^ n := by rw [Int.natAbs_of_nonneg h0]; exact h
    exact_mod_cast this
@[simp] theorem R_offsh {Q : RV → Env → W → Prop} : R (offR (.sh d)) ρ w Q ↔ Q (.sh d) ρ w := R_some rfl
@[simp] theorem R_offfr {Q : RV → Env → W → Prop} : R (offR (.fr d)) ρ w Q ↔ Q (.fr d) ρ w := R_some rfl
variable {fa fb : M RV} {ta tb : M Bool}
@[simp] theorem R_op2 {g : D → D → Option RV} {Q : RV → Env → W → Prop} : R (op2M g fa fb) ρ w Q ↔ R fa ρ w fun r1 ρ1 w1 => R fb ρ1 w1 fun r2 ρ2 w2 => R (lift2 g r1 r2) ρ2 w2 Q := by
  unfold op2M
  simp
@[simp] theorem R_op1 {g : D → Option RV} {Q : RV → Env → W → Prop} : R (op1M g fa) ρ w Q ↔ R fa ρ w fun r1 ρ1 w1 => R (lift1 g r1) ρ1 w1 Q := by
  unfold op1M
  simp
@[simp] theorem R_bM {g : List D → Option RV} {fs : M (List RV)} {Q : RV → Env → W → Prop} : R (bM g fs) ρ w Q ↔ R fs ρ w fun rs ρ1 w1 => R (liftN g rs) ρ1 w1 Q := by
  unfold bM
  simp
@[simp] theorem R_consA {fs : M (List RV)} {Q : List RV → Env → W → Prop} : R (consA fa fs) ρ w Q ↔ R fa ρ w fun r ρ1 w1 => R fs ρ1 w1 fun rs ρ2 w2 => Q (r :: rs) ρ2 w2 := by
  unfold consA
  simp
@[simp] theorem R_ifM {f g : M α} {Q : α → Env → W → Prop} : R (ifM ta f g) ρ w Q ↔ R ta ρ w fun b ρ1 w1 => if b = true then R f ρ1 w1 Q else R g ρ1 w1 Q := by
  unfold ifM
  simp
@[simp] theorem R_nxM {m : M Unit} {Q : Fl → Env → W → Prop} : R (nxM m) ρ w Q ↔ R m ρ w fun _ ρ1 w1 => Q .nx ρ1 w1 := by
  unfold nxM
  simp
@[simp] theorem R_tupM {fs : M (List RV)} {Q : RV → Env → W → Prop} : R (tupM fs) ρ w Q ↔ R fs ρ w fun rs ρ1 w1 => R (escAll rs) ρ1 w1 fun ds ρ2 w2 => Q (.sh (.tup ds)) ρ2 w2 := by
  unfold tupM
  simp
@[simp] theorem R_lstM {fs : M (List RV)} {Q : RV → Env → W → Prop} : R (lstM fs) ρ w Q ↔ R fs ρ w fun rs ρ1 w1 => R (escAll rs) ρ1 w1 fun ds ρ2 w2 => Q (.fr (.lst ds)) ρ2 w2 := by
  unfold lstM
  simp
@[simp] theorem R_callM {den : List D → W → Option (RV × W)} {dd : List D} {fs : M (List RV)} {Q : RV → Env → W → Prop} : R (callM den dd fs) ρ w Q ↔ R fs ρ w fun rs ρ1 w1 => R (escAll rs) ρ1 w1 fun ds ρ2 w2 => Ran (den (ds ++ dd) w2) fun r w' => Q r ρ2 w' := by
  unfold callM
  simp
@[simp] theorem R_andT {Q : Bool → Env → W → Prop} : R (andT ta tb) ρ w Q ↔ R ta ρ w fun b ρ1 w1 => if b = true then R tb ρ1 w1 Q else Q false ρ1 w1 := by
  unfold andT
  simp
@[simp] theorem R_orT {Q : Bool → Env → W → Prop} : R (orT ta tb) ρ w Q ↔ R ta ρ w fun b ρ1 w1 => if b = true then Q true ρ1 w1 else R tb ρ1 w1 Q := by
  unfold orT
  simp
@[simp] theorem R_notT {Q : Bool → Env → W → Prop} : R (notT ta) ρ w Q ↔ R ta ρ w fun b ρ1 w1 => Q (!b) ρ1 w1 := by
  unfold notT
  simp
@[simp] theorem R_pend {fs : M (List RV)} {Q : List RV → Env → W → Prop} : R (pend1 fa fs) ρ w Q ↔ R fa ρ w fun r ρ1 w1 => R (offR r) ρ1 w1 fun r' ρ2 w2 => R fs ρ2 w2 fun rs ρ3 w3 => Q (r' :: rs) ρ3 w3 := by
  unfold pend1
  simp
@[simp] theorem R_parn {Q : Unit → Env → W → Prop} : R (parM [] []) ρ w Q ↔ Q () ρ w := R_pure
@[simp] theorem R_parsh {is : List Nat} {rs : List RV} {Q : Unit → Env → W → Prop} : R (parM (i :: is) (.sh d :: rs)) ρ w Q ↔ R (parM is rs) (ρ.set i (some (.val d))) w Q := by
  show R (bindM (setM i (.val d)) fun _ => parM is rs) ρ w Q ↔ _
  simp
@[simp] theorem R_parfr {is : List Nat} {rs : List RV} {Q : Unit → Env → W → Prop} : R (parM (i :: is) (.fr d :: rs)) ρ w Q ↔ R (parM is rs) (ρ.set i (some (.own d))) w Q := by
  show R (bindM (setM i (.own d)) fun _ => parM is rs) ρ w Q ↔ _
  simp
end
end FD

end sec_EV
section sec_EV2
set_option maxRecDepth 100000
set_option maxHeartbeats 5000000
/-! EV2: more rules for running denotations; texts as lists of code points. -/
namespace FD
open PySem L2
local instance tl1 : Tabl := { T := [] }
section
variable {α β : Type} {f : M α} {ρ : Env} {w : W} {d d1 d2 : D} {i : Nat} {r r1 r2 : RV} {fa fb fo fe : M RV} {ta tb : M Bool}
theorem R_escow {Q : D → Env → W → Prop} (h : ρ[i]? = some (some (.own d))) : R (escR (.ow i)) ρ w Q ↔ Q d (ρ.set i (some (.val d))) w := R_some (by unfold escR; simp [h])
@[simp] theorem R_strM {g : Str → D → Option RV} {Q : RV → Env → W → Prop} : R (strM g fo fe) ρ w Q ↔ R fo ρ w fun r ρ1 w1 => ∃ s, r = .sh (.str s) ∧ R fe ρ1 w1 fun r2 ρ2 w2 => R (lift1 (g s) r2) ρ2 w2 Q := by
  unfold strM
  rw [R_bind]
  constructor
  · rintro ⟨r, ρ1, w1, e1, q⟩
    refine ⟨r, ρ1, w1, e1, ?_⟩
    split at q
    · exact ⟨_, rfl, R_bind.mp q⟩
    · obtain ⟨_, _, _, e, _⟩ := q
      cases e
  · rintro ⟨r, ρ1, w1, e1, s, rfl, q⟩
    exact ⟨_, ρ1, w1, e1, R_bind.mpr q⟩
@[simp] theorem R_ssetM {Q : RV → Env → W → Prop} : R (ssetM fa) ρ w Q ↔ R fa ρ w fun r ρ1 w1 => ∃ x : Str, r = .sh (.str x) ∧ x.cps.size < 4000 ∧ Q (.fr (.lst ((ST.sset x).map D.str))) ρ1 w1 := by
  unfold ssetM
  rw [R_bind]
  constructor
  · rintro ⟨r, ρ1, w1, e1, q⟩
    refine ⟨r, ρ1, w1, e1, ?_⟩
    split at q
    · split at q
      · exact ⟨_, rfl, by assumption, R_pure.mp q⟩
      · obtain ⟨_, _, _, e, _⟩ := q
        cases e
    · obtain ⟨_, _, _, e, _⟩ := q
      cases e
  · rintro ⟨r, ρ1, w1, e1, x, rfl, h, q⟩
    refine ⟨_, ρ1, w1, e1, ?_⟩
    simp only [h, if_true]
    exact R_pure.mpr q
@[simp] theorem R_andM {Q : RV → Env → W → Prop} : R (andM fa fb) ρ w Q ↔ R (boolM fa) ρ w fun b ρ1 w1 => if b = true then R fb ρ1 w1 Q else Q (.sh (.bl false)) ρ1 w1 := by
  unfold andM
  simp
@[simp] theorem R_orM {Q : RV → Env → W → Prop} : R (orM fa fb) ρ w Q ↔ R (boolM fa) ρ w fun b ρ1 w1 => if b = true then Q (.sh (.bl true)) ρ1 w1 else R fb ρ1 w1 Q := by
  unfold orM
  simp
@[simp] theorem R_notM {Q : RV → Env → W → Prop} : R (notM fa) ρ w Q ↔ R (boolM fa) ρ w fun b ρ1 w1 => Q (.sh (.bl (!b))) ρ1 w1 := by
  unfold notM
  simp
@[simp] theorem R_isiM {bt : String → Bool} {ic : List (Str × Bool)} {Q : RV → Env → W → Prop} : R (isiM bt ic fa) ρ w Q ↔ R fa ρ w fun r ρ1 w1 => R (lift1 (fun d => (isiD bt ic d).map fun b => .sh (.bl b)) r) ρ1 w1 Q := by
  unfold isiM
  exact R_op1
@[simp] theorem R_sortM {srt : List Str → List Str} {Q : RV → Env → W → Prop} : R (sortM srt fa) ρ w Q ↔ R fa ρ w fun r ρ1 w1 => R (lift1 (fun d => match textsD d with
  | some xs => if xs.all (fun x => decide (x.length ≤ 1000000)) = true then some (.fr (.lst ((srt xs).map D.str))) else none
  | none => none) r) ρ1 w1 Q := by
  unfold sortM
  exact R_bind
theorem R_lcM {fi : M (List D)} {vs : List Nat} {asg : D → M Unit} {test : M Bool} {elt : M RV} {Q : RV → Env → W → Prop} : R (lcM fi vs asg test elt) ρ w Q ↔ R fi ρ w fun ds ρ1 w1 => (noOwn ρ1 vs = true ∧ ds.length ≤ 1000000) ∧ R (lcL vs asg test elt ds) (wipeE ρ1 vs) w1 fun ys ρ2 w2 => Q (.fr (.lst ys)) (restE ρ1 ρ2 vs) w2 := by
  unfold lcM
  rw [R_bind]
  constructor
  · rintro ⟨ds, ρ1, w1, e1, r, ρ2, w2, e2, q⟩
    refine ⟨ds, ρ1, w1, e1, ?_⟩
    dsimp only at e2
    split at e2
    · rename_i hc
      refine ⟨hc, ?_⟩
      split at e2
      · rename_i e3
        cases e2
        exact ⟨_, _, _, e3, q⟩
      · cases e2
    · cases e2
  · rintro ⟨ds, ρ1, w1, e1, hc, ys, ρ2, w2, e2, q⟩
    refine ⟨ds, ρ1, w1, e1, ⟨_, _, _, ?_, q⟩⟩
    simp [hc, e2]
/-- a comprehension whose turns leave the draws alone -/
theorem R_lcL {vs : List Nat} {asg : D → M Unit} {test : M Bool} {elt : M RV} {Q : List D → Env → W → Prop} (g : D → Option D) : ∀ (ds : List D), (∀ d ∈ ds, R (lcTurn asg test elt d) ρ w fun y ρ' w' => y = g d ∧ wipeE ρ' vs = ρ ∧ w' = w) → Q (ds.filterMap g) ρ w → R (lcL vs asg test elt ds) ρ w Q := by
  have key : ∀ (ds : List D), (∀ d ∈ ds, R (lcTurn asg test elt d) ρ w fun y ρ' w' => y = g d ∧ wipeE ρ' vs = ρ ∧ w' = w) → lcL vs asg test elt ds ρ w = some (ds.filterMap g, ρ, w) := by
    intro ds
    induction ds with
    | nil => intro _; rfl
    | cons d ds ih =>
      intro h
      obtain ⟨y, ρ1, w1, e1, rfl, e2, rfl⟩ := h d List.mem_cons_self
      have e3 := ih fun d' h' => h d' (List.mem_cons_of_mem _ h')
      unfold lcL bindM
      rw [e1]
      simp only [wipeM, e2, e3, pureM]
      cases e : g d <;> simp [List.filterMap_cons, e]
  intro ds h q
  exact ⟨_, _, _, key ds h, q⟩
@[simp] theorem R_lcTurn {asg : D → M Unit} {test : M Bool} {elt : M RV} {Q : Option D → Env → W → Prop} : R (lcTurn asg test elt d) ρ w Q ↔ R (asg d) ρ w fun _ ρ1 w1 => R test ρ1 w1 fun b ρ2 w2 => if b = true then R elt ρ2 w2 fun r ρ3 w3 => R (escR r) ρ3 w3 fun y ρ4 w4 => Q (some y) ρ4 w4 else Q none ρ2 w2 := by
  unfold lcTurn
  simp
theorem R_range {n : Int} {Q : List D → Env → W → Prop} {rs : List RV} (h : peeks ρ rs = some [.int n]) (h1 : -1000000 ≤ n ∧ n ≤ 1000000) : R (rangeM rs) ρ w Q ↔ Q ((List.range n.toNat).map fun (i : Nat) => D.int (i : Int)) ρ w := R_some (by unfold rangeM; simp [h, h1])
@[simp] theorem R_enumM {Q : List D → Env → W → Prop} : R (enumM fe) ρ w Q ↔ R fe ρ w fun r ρ1 w1 => R (escR r) ρ1 w1 fun d ρ2 w2 => ∃ ds, seqD d = some ds ∧ Q (numD 0 ds) ρ2 w2 := by
  unfold enumM
  simp only [R_bind]
  constructor
  · intro h
    refine h.mono fun r ρ1 w1 h => h.mono fun d ρ2 w2 h => ?_
    obtain ⟨a, ρ3, w3, e, q⟩ := h
    split at e
    · rename_i e'
      cases e
      exact ⟨_, e', q⟩
    · cases e
  · intro h
    refine h.mono fun r ρ1 w1 h => h.mono fun d ρ2 w2 h => ?_
    obtain ⟨ds, e, q⟩ := h
    exact ⟨_, _, _, by simp [e], q⟩
theorem R_app {Q : RV → Env → W → Prop} {i : Nat} {ds0 : List D} (h0 : ownL ρ i = some ds0) (h : R fe ρ w fun r ρ1 w1 => R (escR r) ρ1 w1 fun d ρ2 w2 => ∃ ds, ownL ρ2 i = some ds ∧ ds.length < 1000000 ∧ Q (.sh .non) (ρ2.set i (some (.own (.lst (ds ++ [d]))))) w2) : R (appM i fe) ρ w Q := by
  obtain ⟨r, ρ1, w1, e1, d, ρ2, w2, e2, ds, e3, hl, q⟩ := h
  refine ⟨_, _, _, ?_, q⟩
  unfold appM
  simp [h0, bindM, e1, e2, e3, hl]
@[simp] theorem R_partM {Q : Option Int → Env → W → Prop} : R (partM fa) ρ w Q ↔ R fa ρ w fun r ρ1 w1 => ∃ i, r = .sh (.int i) ∧ Q (some i) ρ1 w1 := by
  unfold partM
  rw [R_bind]
  constructor
  · intro h
    refine h.mono fun r ρ1 w1 h => ?_
    obtain ⟨a, ρ3, w3, e, q⟩ := h
    split at e
    · rename_i e'
      cases e
      unfold asI at e'
      split at e'
      · cases e'
        exact ⟨_, rfl, q⟩
      · cases e'
    · cases e
  · intro h
    refine h.mono fun r ρ1 w1 h => ?_
    obtain ⟨i, rfl, q⟩ := h
    exact ⟨_, _, _, rfl, q⟩
@[simp] theorem R_slM {fl fh : M (Option Int)} {Q : RV → Env → W → Prop} : R (slM fa fl fh) ρ w Q ↔ R fa ρ w fun r1 ρ1 w1 => R fl ρ1 w1 fun lo ρ2 w2 => R fh ρ2 w2 fun hi ρ3 w3 => R (lift1 (fun d => slD d lo hi) r1) ρ3 w3 Q := by
  unfold slM
  simp
theorem R_while {t : M Bool} {body : M Fl} {Q : Fl → Env → W → Prop} (Inv : Nat → Env → W → Prop) (step : ∀ k ρ w, Inv k ρ w → R t ρ w fun b ρ1 w1 => if b = true then R body ρ1 w1 fun fl ρ2 w2 => match fl with
    | .nx => ∃ k', k' < k ∧ Inv k' ρ2 w2
    | .ct => ∃ k', k' < k ∧ Inv k' ρ2 w2
    | .bk => Q .nx ρ2 w2
    | .ret r => Q (.ret r) ρ2 w2 else Q .nx ρ1 w1) : ∀ (n k : Nat) (ρ : Env) (w : W), k < n → Inv k ρ w → R (whileM t body n) ρ w Q
  | 0, k, ρ, w, hk, h => absurd hk (by omega)
  | n + 1, k, ρ, w, hk, h => by
    unfold whileM
    rw [R_bind]
    refine (step k ρ w h).mono fun b ρ1 w1 q => ?_
    cases b with
    | false => exact R_pure.mpr q
    | true =>
      simp only [if_true] at q ⊢
      rw [R_bind]
      refine q.mono fun fl ρ2 w2 q => ?_
      cases fl with
      | nx =>
        obtain ⟨k', h', q⟩ := q
        exact R_while Inv step n k' ρ2 w2 (by omega) q
      | ct =>
        obtain ⟨k', h', q⟩ := q
        exact R_while Inv step n k' ρ2 w2 (by omega) q
      | bk => exact R_pure.mpr q
      | ret r => exact R_pure.mpr q
@[simp] theorem R_gTup {g : List D → M Unit} {ds : List D} {Q : Unit → Env → W → Prop} : R (gTupM g (.tup ds)) ρ w Q ↔ R (g ds) ρ w Q := Iff.rfl
@[simp] theorem R_gCons {g : D → M Unit} {h : List D → M Unit} {ds : List D} {Q : Unit → Env → W → Prop} : R (gConsM g h (d :: ds)) ρ w Q ↔ R (g d) ρ w fun _ ρ1 w1 => R (h ds) ρ1 w1 Q := R_bind
@[simp] theorem R_gNil {Q : Unit → Env → W → Prop} : R (gNilM []) ρ w Q ↔ Q () ρ w := R_pure
@[simp] theorem R_makM {cn : Str} {den : List D → W → Option (List (Str × D) × W)} {dd : List D} {fs : M (List RV)} {Q : RV → Env → W → Prop} : R (makM cn den dd fs) ρ w Q ↔ R fs ρ w fun rs ρ1 w1 => R (escAll rs) ρ1 w1 fun ds ρ2 w2 => Ran (den (ds ++ dd) w2) fun gs w' => Q (.sh (.ins cn gs)) ρ2 w' := by
  unfold makM
  simp only [R_bind]
  constructor
  · intro h
    refine h.mono fun r ρ1 w1 h => h.mono fun d ρ2 w2 h => ?_
    obtain ⟨a, ρ3, w3, e, q⟩ := h
    dsimp only at e
    split at e
    · rename_i e'
      cases e
      exact ⟨_, _, e', q⟩
    · cases e
  · intro h
    refine h.mono fun r ρ1 w1 h => h.mono fun d ρ2 w2 h => ?_
    obtain ⟨gs, w', e, q⟩ := h
    exact ⟨_, _, _, by simp [e], q⟩
@[simp] theorem R_methM {cn m : Str} {den : List D → W → Option (RV × W)} {dd : List D} {fs : M (List RV)} {Q : RV → Env → W → Prop} : R (methM cn m den dd fo fs) ρ w Q ↔ R fo ρ w fun r ρ1 w1 => R (selfR cn m r) ρ1 w1 fun d ρ2 w2 => R fs ρ2 w2 fun rs ρ3 w3 => R (escAll rs) ρ3 w3 fun ds ρ4 w4 => Ran (den (d :: (ds ++ dd)) w4) fun r w' => Q r ρ4 w' := by
  unfold methM
  simp
theorem R_eqO {cn : Str} {ic : List (Str × Bool)} {den : List D → W → Option (RV × W)} {ne : Bool} {Q : RV → Env → W → Prop} (h : R fa ρ w fun r1 ρ1 w1 => R fb ρ1 w1 fun r2 ρ2 w2 => R (escR r1) ρ2 w2 fun d1 ρ3 w3 => R (escR r2) ρ3 w3 fun d2 ρ4 w4 => ∃ gs, d1 = .ins cn gs ∧ isiD (fun _ => true) ic d2 = some true ∧ Ran (den [.ins cn gs, d2] w4) fun r w' => ∃ b, r = .sh (.bl b) ∧ Q (.sh (.bl (if ne then !b else b))) ρ4 w') : R (eqOM cn ic den ne fa fb) ρ w Q := by
  obtain ⟨r1, ρ1, w1, e1, r2, ρ2, w2, e2, d1, ρ3, w3, e3, d2, ρ4, w4, e4, gs, rfl, hi, r, w', hd, b, rfl, q⟩ := h
  refine ⟨_, _, _, ?_, q⟩
  unfold eqOM
  simp [bindM, e1, e2, e3, e4, escAll, hi, hd, runD, pureM]
end
/-! texts -/
abbrev st (l : List Nat) : Str := ⟨l.toArray⟩
abbrev S (l : List Nat) : D := .str (st l)
end FD

end sec_EV2
section sec_EV3
set_option maxRecDepth 100000
set_option maxHeartbeats 5000000
/-! EV3: plain operations on texts and lists of texts. -/
namespace FD
open PySem L2
local instance tl2 : Tabl := { T := [] }
end FD

end sec_EV3
section sec_EV4
set_option maxRecDepth 100000
set_option maxHeartbeats 5000000
/-! EV4: rules for loops by plain lists; equations for defs. -/
namespace FD
open PySem L2
local instance tl4 : Tabl := { T := [] }
section
variable {α : Type} {ρ : Env} {w : W}
/-- a def that gives one value and leaves the draws -/
theorem D_eq {n : Nat} {body : M Fl} {ds : List D} {r0 : RV} {w0 : W} (h : R body (startE n ds) w fun fl ρ' w' => w' = w0 ∧ match fl with | .ret r => outR ρ' r = some r0 | .nx => r0 = .sh .non | _ => False) : denB n body ds w = some (r0, w0) := by
  obtain ⟨r, w', e, h1, h2⟩ := D_run (Q := fun r w' => r = r0 ∧ w' = w0) (h.mono fun fl ρ' w' q => ⟨r0, by cases fl <;> exact q.2, rfl, q.1⟩)
  rw [e, h1, h2]
theorem R_lcLm {vs : List Nat} {asg : D → M Unit} {test : M Bool} {elt : M RV} {Q : List D → Env → W → Prop} (emb : α → D) (g : α → Option D) (l : List α) (h : ∀ a ∈ l, R (lcTurn asg test elt (emb a)) ρ w fun y ρ' w' => y = g a ∧ wipeE ρ' vs = ρ ∧ w' = w) (q : Q (l.filterMap g) ρ w) : R (lcL vs asg test elt (l.map emb)) ρ w Q := by
  have key : ∀ (l : List α), (∀ d ∈ l, R (lcTurn asg test elt (emb d)) ρ w fun y ρ' w' => y = g d ∧ wipeE ρ' vs = ρ ∧ w' = w) → lcL vs asg test elt (l.map emb) ρ w = some (l.filterMap g, ρ, w) := by
    intro ds
    induction ds with
    | nil => intro _; rfl
    | cons d ds ih =>
      intro h
      obtain ⟨y, ρ1, w1, e1, rfl, e2, rfl⟩ := h d List.mem_cons_self
      have e3 := ih fun d' h' => h d' (List.mem_cons_of_mem _ h')
      rw [List.map_cons]
      unfold lcL bindM
      rw [e1]
      simp only [wipeM, e2, e3, pureM]
      cases e : g d <;> simp [List.filterMap_cons, e]
  exact ⟨_, _, _, key l h, q⟩
theorem filterMap_some {β : Type} (f : α → β) (l : List α) : l.filterMap (fun a => some (f a)) = l.map f := by
  induction l with
  | nil => rfl
  | cons a l ih => simp
theorem filterMap_if {β : Type} (p : α → Bool) (f : α → β) (l : List α) : l.filterMap (fun a => if p a = true then some (f a) else none) = (l.filter p).map f := by
  induction l with
  | nil => rfl
  | cons a l ih =>
    by_cases h : p a = true
    · simp [h, ih]
    · simp [h, ih]
/-- all are taken -/
theorem R_lcMap {vs : List Nat} {asg : D → M Unit} {test : M Bool} {elt : M RV} {Q : List D → Env → W → Prop} (emb : α → D) (f : α → D) (l : List α) (h : ∀ a ∈ l, R (lcTurn asg test elt (emb a)) ρ w fun y ρ' w' => y = some (f a) ∧ wipeE ρ' vs = ρ ∧ w' = w) (q : Q (l.map f) ρ w) : R (lcL vs asg test elt (l.map emb)) ρ w Q :=
  R_lcLm emb (fun a => some (f a)) l h (by rw [filterMap_some]; exact q)
/-- some are taken -/
theorem R_lcFil {vs : List Nat} {asg : D → M Unit} {test : M Bool} {elt : M RV} {Q : List D → Env → W → Prop} (emb : α → D) (p : α → Bool) (f : α → D) (l : List α) (h : ∀ a ∈ l, R (lcTurn asg test elt (emb a)) ρ w fun y ρ' w' => y = (if p a = true then some (f a) else none) ∧ wipeE ρ' vs = ρ ∧ w' = w) (q : Q ((l.filter p).map f) ρ w) : R (lcL vs asg test elt (l.map emb)) ρ w Q :=
  R_lcLm emb (fun a => if p a = true then some (f a) else none) l h (by rw [filterMap_if]; exact q)
/-- turns that draw: Inv of what is left, of what is there, of the draws -/
theorem R_lcInv {vs : List Nat} {asg : D → M Unit} {test : M Bool} {elt : M RV} {Q : List D → Env → W → Prop} (emb : α → D) (Inv : List α → List D → W → Prop) (step : ∀ a l acc w, Inv (a :: l) acc w → R (lcTurn asg test elt (emb a)) ρ w fun y ρ' w' => wipeE ρ' vs = ρ ∧ Inv l (acc ++ y.toList) w') (fin : ∀ acc w, Inv [] acc w → Q acc ρ w) (l : List α) (h : Inv l [] w) : R (lcL vs asg test elt (l.map emb)) ρ w Q := by
  have key : ∀ (l : List α) (acc : List D) (w : W), Inv l acc w → ∃ ys w', lcL vs asg test elt (l.map emb) ρ w = some (ys, ρ, w') ∧ Inv [] (acc ++ ys) w' := by
    intro l
    induction l with
    | nil => intro acc w h; exact ⟨[], w, rfl, by simpa using h⟩
    | cons a l ih =>
      intro acc w h
      obtain ⟨y, ρ1, w1, e1, e2, h2⟩ := step a l acc w h
      obtain ⟨ys, w', e3, h3⟩ := ih _ _ h2
      refine ⟨y.toList ++ ys, w', ?_, by simpa using h3⟩
      rw [List.map_cons]
      unfold lcL bindM
      rw [e1]
      simp only [wipeM, e2, e3, pureM]
  obtain ⟨ys, w', e, h'⟩ := key l [] w h
  exact ⟨_, _, _, e, fin _ _ (by simpa using h')⟩
theorem R_forLm {g : D → M Unit} {body : M Fl} {Q : Fl → Env → W → Prop} (emb : α → D) (Inv : List α → Env → W → Prop) (step : ∀ d ds ρ w, Inv (d :: ds) ρ w → R (g (emb d)) ρ w fun _ ρ1 w1 => R body ρ1 w1 fun fl ρ2 w2 => match fl with
    | .nx => Inv ds ρ2 w2
    | .ct => Inv ds ρ2 w2
    | .bk => Q .nx ρ2 w2
    | .ret r => Q (.ret r) ρ2 w2) (fin : ∀ ρ w, Inv [] ρ w → Q .nx ρ w) (ds : List α) (ρ : Env) (w : W) (h : Inv ds ρ w) : R (forL g body (ds.map emb)) ρ w Q := by
  refine R_forL (fun l ρ w => ∃ ds, l = ds.map emb ∧ Inv ds ρ w) ?_ ?_ _ _ _ ⟨ds, rfl, h⟩
  · rintro d l ρ w ⟨ds, e, h⟩
    cases ds with
    | nil => cases e
    | cons a ds =>
      cases e
      refine (step a ds ρ w h).mono fun _ ρ1 w1 h => h.mono fun fl ρ2 w2 h => ?_
      cases fl with
      | nx => exact ⟨ds, rfl, h⟩
      | ct => exact ⟨ds, rfl, h⟩
      | bk => exact h
      | ret r => exact h
  · rintro ρ w ⟨ds, e, h⟩
    cases ds with
    | nil => exact fin ρ w h
    | cons a ds => cases e
theorem R_while2 {t : M Bool} {body : M Fl} {Q : Fl → Env → W → Prop} (Inv B : Nat → Env → W → Prop) (test : ∀ k ρ w, Inv k ρ w → R t ρ w fun b ρ1 w1 => if b = true then B k ρ1 w1 else Q .nx ρ1 w1) (step : ∀ k ρ w, B k ρ w → R body ρ w fun fl ρ2 w2 => match fl with
    | .nx => ∃ k', k' < k ∧ Inv k' ρ2 w2
    | .ct => ∃ k', k' < k ∧ Inv k' ρ2 w2
    | .bk => Q .nx ρ2 w2
    | .ret r => Q (.ret r) ρ2 w2) (n k : Nat) (ρ : Env) (w : W) (hk : k < n) (h : Inv k ρ w) : R (whileM t body n) ρ w Q := by
  refine R_while Inv (fun k ρ w h => (test k ρ w h).mono fun b ρ1 w1 q => ?_) n k ρ w hk h
  cases b with
  | true => exact step k ρ1 w1 q
  | false => exact q
@[simp] theorem R_iterM {r : RV} {Q : List D → Env → W → Prop} : R (iterM r) ρ w Q ↔ R (escR r) ρ w fun d ρ' w' => ∃ ds, iterD d = some ds ∧ Q ds ρ' w' := by
  unfold iterM
  rw [R_bind]
  constructor
  · intro h
    refine h.mono fun d ρ' w' h => ?_
    obtain ⟨a, ρ2, w2, e, q⟩ := h
    split at e
    · rename_i e2
      cases e
      exact ⟨_, e2, q⟩
    · cases e
  · intro h
    refine h.mono fun d ρ' w' h => ?_
    obtain ⟨ds, e, q⟩ := h
    exact ⟨ds, ρ', w', by simp [e], q⟩
theorem R_lift2g {g : D → D → Option RV} {r1 r2 : RV} {Q : RV → Env → W → Prop} : R (lift2 g r1 r2) ρ w Q ↔ ∃ d1, peek ρ r1 = some d1 ∧ ∃ d2, peek ρ r2 = some d2 ∧ ∃ r, g d1 d2 = some r ∧ Q r ρ w := by
  constructor
  · rintro ⟨a, ρ', w', e, q⟩
    obtain ⟨d1, d2, r, p1, p2, eg, ez⟩ := lift2_some e
    cases ez
    exact ⟨d1, p1, d2, p2, _, eg, q⟩
  · rintro ⟨d1, p1, d2, p2, r, eg, q⟩
    exact (R_lift2' p1 p2).mpr ⟨r, eg, q⟩
theorem R_liftNg {g : List D → Option RV} {rs : List RV} {Q : RV → Env → W → Prop} : R (liftN g rs) ρ w Q ↔ ∃ ds, peeks ρ rs = some ds ∧ ∃ r, g ds = some r ∧ Q r ρ w := by
  constructor
  · rintro ⟨a, ρ', w', e, q⟩
    obtain ⟨ds, r, p1, eg, ez⟩ := liftN_some e
    cases ez
    exact ⟨ds, p1, _, eg, q⟩
  · rintro ⟨ds, p1, r, eg, q⟩
    exact (R_liftN p1).mpr ⟨r, eg, q⟩
def AppQ (i : Nat) (Q : RV → Env → W → Prop) (d : D) (ρ2 : Env) (w2 : W) : Prop := ∃ ds, ownL ρ2 i = some ds ∧ ds.length < 1000000 ∧ Q (.sh .non) (ρ2.set i (some (.own (.lst (ds ++ [d]))))) w2
theorem R_appQ {fe : M RV} {i : Nat} {Q : RV → Env → W → Prop} {ds0 : List D} (h0 : ownL ρ i = some ds0) (h : R fe ρ w fun r ρ1 w1 => R (escR r) ρ1 w1 (AppQ i Q)) : R (appM i fe) ρ w Q := R_app h0 h
@[simp] theorem R_eqOM {cn : Str} {ic : List (Str × Bool)} {den : List D → W → Option (RV × W)} {ne : Bool} {fa fb : M RV} {Q : RV → Env → W → Prop} : R (eqOM cn ic den ne fa fb) ρ w Q ↔ R fa ρ w fun r1 ρ1 w1 => R fb ρ1 w1 fun r2 ρ2 w2 => R (escR r1) ρ2 w2 fun d1 ρ3 w3 => R (escR r2) ρ3 w3 fun d2 ρ4 w4 => (∃ gs, d1 = .ins cn gs) ∧ isiD (fun _ => true) ic d2 = some true ∧ Ran (den [d1, d2] w4) fun r w' => ∃ b, r = .sh (.bl b) ∧ Q (.sh (.bl (if ne then !b else b))) ρ4 w' := by
  constructor
  · rintro ⟨a, ρ', w', e, q⟩
    unfold eqOM at e
    obtain ⟨r1, ρ1, w1, e1, f1⟩ := bindM_some e
    obtain ⟨r2, ρ2, w2, e2, f2⟩ := bindM_some f1
    obtain ⟨ds, ρ3, w3, e3, f3⟩ := bindM_some f2
    obtain ⟨d1, ρ4, w4, e4, e5⟩ := bindM_some e3
    obtain ⟨ds', ρ5, w5, e6, e7⟩ := bindM_some e5
    obtain ⟨d2, ρ6, w6, e8, e9⟩ := bindM_some e6
    cases e9
    cases e7
    clear e f1 f2
    refine ⟨r1, ρ1, w1, e1, r2, ρ2, w2, e2, d1, ρ4, w4, e4, d2, _, _, e8, ?_⟩
    cases d1 with
    | ins c' gs =>
      dsimp only at f3
      by_cases hc : c' = cn ∧ isiD (fun _ => true) ic d2 = some true
      · rw [if_pos hc] at f3
        obtain ⟨rfl, hi⟩ := hc
        obtain ⟨r, ρ7, w7, e10, e11⟩ := bindM_some f3
        obtain ⟨r', w8, e12, ez⟩ := runD_some e10
        cases ez
        refine ⟨⟨gs, rfl⟩, hi, _, _, e12, ?_⟩
        split at e11
        · cases e11
          exact ⟨_, rfl, q⟩
        · cases e11
      · rw [if_neg hc] at f3
        cases f3
    | _ => cases f3
  · rintro ⟨r1, ρ1, w1, e1, r2, ρ2, w2, e2, d1, ρ3, w3, e3, d2, ρ4, w4, e4, ⟨gs, rfl⟩, hi, r, w', e5, b, rfl, q⟩
    exact R_eqO ⟨r1, ρ1, w1, e1, r2, ρ2, w2, e2, _, ρ3, w3, e3, d2, ρ4, w4, e4, gs, rfl, hi, _, w', e5, b, rfl, q⟩
theorem R_then {f g : M Fl} {Q : Fl → Env → W → Prop} (P : Env → W → Prop) (h : R f ρ w fun fl ρ' w' => fl = .nx ∧ P ρ' w') (k : ∀ ρ' w', P ρ' w' → R g ρ' w' Q) : R (seqM f g) ρ w Q := by
  rw [R_seq]
  refine h.mono fun fl ρ' w' hp => ?_
  obtain ⟨rfl, hp⟩ := hp
  exact k ρ' w' hp
end
theorem atI_nat {α : Type} (xs : List α) (i : Nat) (h : i < xs.length) : L2.atI xs (i : Int) = some xs[i] := by
  unfold L2.atI L2.ixN
  simp [h]
end FD

end sec_EV4
section sec_EQ
set_option maxRecDepth 100000
set_option maxHeartbeats 5000000
/-! EQ: == of data without truth values is equality. -/
namespace FD
open PySem L2
local instance tl7 : Tabl := { T := [] }
/-- data without truth values, at most so deep -/
def NB : Nat → D → Prop
  | _, .non => True
  | _, .int _ => True
  | _, .str x => ∀ c ∈ x.cps.toList, c < 0x110000
  | n + 1, .tup ds => ∀ d ∈ ds, NB n d
  | n + 1, .lst ds => ∀ d ∈ ds, NB n d
  | _, _ => False
theorem NB.up : ∀ {n : Nat} {d : D}, NB n d → NB (n + 1) d
  | 0, .non, _ => by simp [NB]
  | 0, .int _, _ => by simp [NB]
  | 0, .str _, h => by simpa [NB] using h
  | 0, .tup _, h => by simp [NB] at h
  | 0, .lst _, h => by simp [NB] at h
  | n + 1, .non, _ => by simp [NB]
  | n + 1, .int _, _ => by simp [NB]
  | n + 1, .str _, h => by simpa [NB] using h
  | n + 1, .tup ds, h => by
    have h : ∀ d ∈ ds, NB n d := h
    show ∀ d ∈ ds, NB (n + 1) d
    exact fun d hd => (h d hd).up
  | n + 1, .lst ds, h => by
    have h : ∀ d ∈ ds, NB n d := h
    show ∀ d ∈ ds, NB (n + 1) d
    exact fun d hd => (h d hd).up
theorem NB.mono {n m : Nat} {d : D} (h : NB n d) (hm : n ≤ m) : NB m d := by
  induction hm with
  | refl => exact h
  | step _ ih => exact ih.up
theorem toPys_of {n : Nat} {ds : List D} (h : ∀ d ∈ ds, ∃ p, toPy d = some p ∧ p.canLay0 = true ∧ p.depth ≤ n) : ∃ ps, toPys ds = some ps ∧ PyData.canLayAll0 ps = true ∧ PyData.depthAll ps ≤ n := by
  induction ds with
  | nil => exact ⟨[], by simp [toPys], by simp [PyData.canLayAll0], by simp [PyData.depthAll]⟩
  | cons d ds ih =>
    obtain ⟨ps, e1, e2, e3⟩ := ih fun d hd => h d (List.mem_cons_of_mem _ hd)
    obtain ⟨p, f1, f2, f3⟩ := h d List.mem_cons_self
    refine ⟨p :: ps, by simp [toPys, f1, e1], by simp [PyData.canLayAll0, f2, e2], ?_⟩
    simp only [PyData.depthAll]
    omega
theorem NB.py : ∀ {n : Nat} {d : D}, NB n d → ∃ p, toPy d = some p ∧ p.canLay0 = true ∧ p.depth ≤ n
  | n, .non, _ => ⟨.none, by simp [toPy], by simp [PyData.canLay0], by simp [PyData.depth]⟩
  | n, .int i, _ => ⟨.int i, by simp [toPy], by simp [PyData.canLay0], by simp [PyData.depth]⟩
  | n, .str x, h => ⟨.str x, by simp [toPy], by
      have h : ∀ c ∈ x.cps.toList, c < 0x110000 := by cases n <;> exact h
      simp only [PyData.canLay0, PyData.strOk, Array.all_eq_true', decide_eq_true_eq]
      intro c hc
      exact h c (by simpa using hc), by simp [PyData.depth]⟩
  | n + 1, .tup ds, h => by
    have h : ∀ d ∈ ds, NB n d := h
    obtain ⟨ps, e1, e2, e3⟩ := toPys_of (n := n) fun d hd => (h d hd).py
    exact ⟨.tuple ps, by simp [toPy, e1], by simpa [PyData.canLay0] using e2, by simp [PyData.depth]; omega⟩
  | n + 1, .lst ds, h => by
    have h : ∀ d ∈ ds, NB n d := h
    obtain ⟨ps, e1, e2, e3⟩ := toPys_of (n := n) fun d hd => (h d hd).py
    exact ⟨.list ps, by simp [toPy, e1], by simpa [PyData.canLay0] using e2, by simp [PyData.depth]; omega⟩
  | 0, .tup ds, h => by simp [NB] at h
  | 0, .lst ds, h => by simp [NB] at h
  | 0, .bl _, h => by simp [NB] at h
  | 0, .ty _, h => by simp [NB] at h
  | 0, .draw, h => by simp [NB] at h
  | 0, .dic _, h => by simp [NB] at h
  | 0, .ktup _, h => by simp [NB] at h
  | 0, .dit _, h => by simp [NB] at h
  | 0, .fdit _, h => by simp [NB] at h
  | 0, .ins _ _, h => by simp [NB] at h
  | 0, .scr _, h => by simp [NB] at h
  | 0, .exc _ _, h => by simp [NB] at h
  | 0, .lam _ _, h => by simp [NB] at h
  | _ + 1, .bl _, h => by simp [NB] at h
  | _ + 1, .exc _ _, h => by simp [NB] at h
  | _ + 1, .lam _ _, h => by simp [NB] at h
  | _ + 1, .ty _, h => by simp [NB] at h
  | _ + 1, .draw, h => by simp [NB] at h
  | _ + 1, .dic _, h => by simp [NB] at h
  | _ + 1, .ktup _, h => by simp [NB] at h
  | _ + 1, .dit _, h => by simp [NB] at h
  | _ + 1, .fdit _, h => by simp [NB] at h
  | _ + 1, .ins _ _, h => by simp [NB] at h
  | _ + 1, .scr _, h => by simp [NB] at h
theorem eqvAll_iff : ∀ {as bs : List D} {ps qs : List PyData}, (∀ a ∈ as, ∀ b ∈ bs, ∀ p q, toPy a = some p → toPy b = some q → (PyData.eqv p q = true ↔ a = b)) → toPys as = some ps → toPys bs = some qs → (PyData.eqvAll ps qs = true ↔ as = bs)
  | [], [], ps, qs, _, e1, e2 => by
    simp [toPys] at e1 e2
    subst e1
    subst e2
    simp [PyData.eqvAll]
  | [], b :: bs, ps, qs, _, e1, e2 => by
    simp only [toPys] at e1 e2
    cases e1
    split at e2
    · cases q : toPys bs with
      | none => rw [q] at e2; cases e2
      | some _ => rw [q] at e2; cases e2; simp [PyData.eqvAll]
    · cases e2
  | a :: as, [], ps, qs, _, e1, e2 => by
    simp only [toPys] at e1 e2
    cases e2
    split at e1
    · cases q : toPys as with
      | none => rw [q] at e1; cases e1
      | some _ => rw [q] at e1; cases e1; simp [PyData.eqvAll]
    · cases e1
  | a :: as, b :: bs, ps, qs, h, e1, e2 => by
    simp only [toPys] at e1 e2
    split at e1
    · rename_i p hp
      cases q1 : toPys as with
      | none => rw [q1] at e1; cases e1
      | some ps' =>
        rw [q1] at e1
        cases e1
        split at e2
        · rename_i q hq
          cases q2 : toPys bs with
          | none => rw [q2] at e2; cases e2
          | some qs' =>
            rw [q2] at e2
            cases e2
            have i1 := h a List.mem_cons_self b List.mem_cons_self p q hp hq
            have i2 := eqvAll_iff (fun a ha b hb => h a (List.mem_cons_of_mem _ ha) b (List.mem_cons_of_mem _ hb)) q1 q2
            simp only [PyData.eqvAll, Bool.and_eq_true, i1, i2, List.cons.injEq]
        · cases e2
    · cases e1
theorem NB.eqv : ∀ {n : Nat} {a b : D} {p q : PyData}, NB n a → NB n b → toPy a = some p → toPy b = some q → (PyData.eqv p q = true ↔ a = b) := by
  intro n
  induction n with
  | zero =>
    intro a b p q ha hb e1 e2
    cases a <;> simp [NB] at ha <;> cases b <;> simp [NB] at hb <;> simp [toPy] at e1 e2 <;> subst e1 <;> subst e2 <;> simp [PyData.eqv]
  | succ n ih =>
    intro a b p q ha hb e1 e2
    have seq : ∀ (as bs : List D) (ps qs : List PyData), (∀ d ∈ as, NB n d) → (∀ d ∈ bs, NB n d) → toPys as = some ps → toPys bs = some qs → (PyData.eqvAll ps qs = true ↔ as = bs) := fun as bs ps qs ha hb e1 e2 => eqvAll_iff (fun x hx y hy p q ep eq => ih (ha x hx) (hb y hy) ep eq) e1 e2
    cases a with
    | tup as =>
      have ha : ∀ d ∈ as, NB n d := ha
      simp only [toPy] at e1
      cases q1 : toPys as with
      | none => rw [q1] at e1; cases e1
      | some ps =>
        rw [q1] at e1
        cases e1
        cases b with
        | tup bs =>
          have hb : ∀ d ∈ bs, NB n d := hb
          simp only [toPy] at e2
          cases q2 : toPys bs with
          | none => rw [q2] at e2; cases e2
          | some qs =>
            rw [q2] at e2
            cases e2
            simp [PyData.eqv, seq as bs ps qs ha hb q1 q2]
        | lst bs =>
          simp only [toPy] at e2
          cases q2 : toPys bs with
          | none => rw [q2] at e2; cases e2
          | some qs => rw [q2] at e2; cases e2; simp [PyData.eqv]
        | _ => simp [NB] at hb <;> simp [toPy] at e2 <;> subst e2 <;> simp [PyData.eqv]
    | lst as =>
      have ha : ∀ d ∈ as, NB n d := ha
      simp only [toPy] at e1
      cases q1 : toPys as with
      | none => rw [q1] at e1; cases e1
      | some ps =>
        rw [q1] at e1
        cases e1
        cases b with
        | lst bs =>
          have hb : ∀ d ∈ bs, NB n d := hb
          simp only [toPy] at e2
          cases q2 : toPys bs with
          | none => rw [q2] at e2; cases e2
          | some qs =>
            rw [q2] at e2
            cases e2
            simp [PyData.eqv, seq as bs ps qs ha hb q1 q2]
        | tup bs =>
          simp only [toPy] at e2
          cases q2 : toPys bs with
          | none => rw [q2] at e2; cases e2
          | some qs => rw [q2] at e2; cases e2; simp [PyData.eqv]
        | _ => simp [NB] at hb <;> simp [toPy] at e2 <;> subst e2 <;> simp [PyData.eqv]
    | _ =>
      simp [NB] at ha <;> simp [toPy] at e1 <;> subst e1 <;> cases b with
      | tup bs =>
        simp only [toPy] at e2
        cases q2 : toPys bs with
        | none => rw [q2] at e2; cases e2
        | some qs => rw [q2] at e2; cases e2; simp [PyData.eqv]
      | lst bs =>
        simp only [toPy] at e2
        cases q2 : toPys bs with
        | none => rw [q2] at e2; cases e2
        | some qs => rw [q2] at e2; cases e2; simp [PyData.eqv]
      | _ => simp [NB] at hb <;> simp [toPy] at e2 <;> subst e2 <;> simp [PyData.eqv]
open Classical in
theorem cmp_NB {a b : D} (ha : NB 64 a) (hb : NB 64 b) : cmpD a b = some (decide (a = b)) := by
  obtain ⟨p, p1, p2, p3⟩ := ha.py
  obtain ⟨q, q1, q2, q3⟩ := hb.py
  have hp : SeqAt.shaped p = true := by simp [SeqAt.shaped, p2, p3]
  have hq : SeqAt.shaped q = true := by simp [SeqAt.shaped, q2, q3]
  unfold cmpD
  simp only [p1, q1, hp, hq, and_self, if_true]
  congr 1
  rw [Bool.eq_iff_iff, ha.eqv hb p1 q1]
  simp
open Classical in
theorem eqD_NB {a b : D} (ha : NB 64 a) (hb : NB 64 b) : eqD a b = some (.sh (.bl (decide (a = b)))) := by
  simp [eqD, cmp_NB ha hb]
open Classical in
theorem neD_NB {a b : D} (ha : NB 64 a) (hb : NB 64 b) : neD a b = some (.sh (.bl (!decide (a = b)))) := by
  simp [neD, cmp_NB ha hb]
theorem NB_int {n : Nat} {i : Int} : NB n (.int i) := by cases n <;> trivial
end FD

end sec_EQ
section sec_EV5
set_option maxRecDepth 100000
set_option maxHeartbeats 5000000
/-! EV5: rules for dicts, zip, properties, alternatives, two-clause comprehensions. -/
namespace FD
open PySem L2
local instance tl5e : Tabl := { T := [] }
/-! association lists with keys that are lists of numbers -/
section
variable {α : Type}
end
section
variable {α β : Type} {ρ : Env} {w : W} {d d1 d2 : D} {i : Nat} {fa fb fk fv fe fo : M RV}
theorem R_alt1 {f g : M α} {Q : α → Env → W → Prop} (h : R f ρ w Q) : R (alt f g) ρ w Q := by
  obtain ⟨a, ρ', w', e, q⟩ := h
  exact ⟨a, ρ', w', by simp [alt, e], q⟩
theorem R_alt2 {f g : M α} {Q : α → Env → W → Prop} (n : f ρ w = none) (h : R g ρ w Q) : R (alt f g) ρ w Q := by
  obtain ⟨a, ρ', w', e, q⟩ := h
  exact ⟨a, ρ', w', by simp [alt, n, e], q⟩
@[simp] theorem R_dictM {Q : RV → Env → W → Prop} : R (dictM fo) ρ w Q ↔ R fo ρ w fun r ρ1 w1 => ∃ d, peek ρ1 r = some d ∧ ∃ ps, pairsD d = some ps ∧ Q r ρ1 w1 := by
  unfold dictM
  rw [R_bind]
  constructor <;> intro h <;> refine h.mono fun r ρ1 w1 h => ?_
  · obtain ⟨a, ρ3, w3, e, q⟩ := h
    dsimp only at e
    cases e1 : peek ρ1 r with
    | none => rw [e1] at e; cases e
    | some d =>
      rw [e1] at e
      dsimp only at e
      cases e2 : pairsD d with
      | none => rw [e2] at e; cases e
      | some ps =>
        rw [e2] at e
        cases e
        exact ⟨d, rfl, ps, e2, q⟩
  · obtain ⟨d, e1, ps, e2, q⟩ := h
    exact ⟨_, _, _, by simp [e1, e2], q⟩
@[simp] theorem R_dgetM {Q : RV → Env → W → Prop} : R (dgetM fo fk fe) ρ w Q ↔ R fo ρ w fun r1 ρ1 w1 => R fk ρ1 w1 fun r2 ρ2 w2 => R fe ρ2 w2 fun r3 ρ3 w3 => R (escR r3) ρ3 w3 fun z ρ4 w4 => R (lift2 (fun d k => match pairsD d with
  | some ps => (match keyT k with | some ks => some (.sh ((valT ps ks).getD z)) | none => none)
  | none => none) r1 r2) ρ4 w4 Q := by
  unfold dgetM
  first
  | (simp only [R_bind]; done)
  | (simp only [R_bind]; exact Iff.rfl)
@[simp] theorem R_valsM {Q : RV → Env → W → Prop} : R (valsM fo) ρ w Q ↔ R fo ρ w fun r ρ1 w1 => ∃ d, peek ρ1 r = some d ∧ ∃ ps, pairsD d = some ps ∧ Q (.fr (.lst (ps.map (·.2)))) ρ1 w1 := by
  unfold valsM
  rw [R_bind]
  constructor <;> intro h <;> refine h.mono fun r ρ1 w1 h => ?_
  · obtain ⟨a, ρ3, w3, e, q⟩ := h
    dsimp only at e
    cases e1 : peek ρ1 r with
    | none => rw [e1] at e; cases e
    | some d =>
      rw [e1] at e
      dsimp only at e
      cases e2 : pairsD d with
      | none => rw [e2] at e; cases e
      | some ps =>
        rw [e2] at e
        cases e
        exact ⟨d, rfl, ps, e2, q⟩
  · obtain ⟨d, e1, ps, e2, q⟩ := h
    exact ⟨_, _, _, by simp [e1, e2], q⟩
@[simp] theorem R_propM {cn : Str} {den : List D → W → Option (RV × W)} {Q : RV → Env → W → Prop} : R (propM cn den fo) ρ w Q ↔ R fo ρ w fun r ρ1 w1 => R (escR r) ρ1 w1 fun d ρ2 w2 => (∃ gs, d = .ins cn gs) ∧ Ran (den [d] w2) fun r' w' => Q r' ρ2 w' := by
  unfold propM
  simp only [R_bind]
  constructor <;> intro h <;> refine h.mono fun r ρ1 w1 h => h.mono fun d ρ2 w2 h => ?_
  · cases d with
    | ins c' gs =>
      dsimp only at h
      by_cases hc : c' = cn
      · rw [if_pos hc, R_runD] at h
        exact ⟨⟨gs, by rw [hc]⟩, h⟩
      · rw [if_neg hc] at h
        obtain ⟨_, _, _, e, _⟩ := h
        cases e
    | _ =>
      obtain ⟨_, _, _, e, _⟩ := h
      cases e
  · obtain ⟨⟨gs, rfl⟩, h⟩ := h
    dsimp only
    rw [if_pos rfl, R_runD]
    exact h
@[simp] theorem R_starM {Q : RV → Env → W → Prop} : R (starM fa fb) ρ w Q ↔ R fa ρ w fun r1 ρ1 w1 => R (escR r1) ρ1 w1 fun d1 ρ2 w2 => R fb ρ2 w2 fun r2 ρ3 w3 => R (escR r2) ρ3 w3 fun d2 ρ4 w4 => ∃ xs ys, seqD d1 = some xs ∧ seqD d2 = some ys ∧ xs.length + ys.length ≤ 1000000 ∧ Q (.sh (.tup (xs ++ ys))) ρ4 w4 := by
  unfold starM
  simp only [R_bind]
  constructor <;> intro h <;> refine h.mono fun r ρ1 w1 h => h.mono fun d ρ2 w2 h => h.mono fun r2 ρ3 w3 h => h.mono fun d2 ρ4 w4 h => ?_
  · obtain ⟨a, ρ5, w5, e, q⟩ := h
    dsimp only at e
    split at e
    · rename_i xs ys e1 e2
      split at e
      · rename_i hl
        cases e
        exact ⟨xs, ys, e1, e2, hl, q⟩
      · cases e
    · cases e
  · obtain ⟨xs, ys, e1, e2, hl, q⟩ := h
    exact ⟨_, _, _, by simp [e1, e2, hl], q⟩
@[simp] theorem R_orVM {Q : RV → Env → W → Prop} : R (orVM fa fb) ρ w Q ↔ R fa ρ w fun r ρ1 w1 => ∃ d, r = .sh d ∧ ∃ b, truD d = some b ∧ if b = true then Q (.sh d) ρ1 w1 else R fb ρ1 w1 Q := by
  unfold orVM
  rw [R_bind]
  constructor <;> intro h <;> refine h.mono fun r ρ1 w1 h => ?_
  · cases r with
    | sh d =>
      dsimp only at h
      cases e : truD d with
      | none =>
        rw [e] at h
        obtain ⟨_, _, _, e, _⟩ := h
        cases e
      | some b =>
        rw [e] at h
        cases b with
        | true => exact ⟨d, rfl, true, e, by simpa using h⟩
        | false => exact ⟨d, rfl, false, e, by simpa using h⟩
    | fr d =>
      obtain ⟨_, _, _, e, _⟩ := h
      cases e
    | ow j =>
      obtain ⟨_, _, _, e, _⟩ := h
      cases e
  · obtain ⟨d, rfl, b, e, h⟩ := h
    dsimp only
    rw [e]
    cases b with
    | true => simpa using h
    | false => simpa using h
@[simp] theorem R_dcTurn {asg : D → M Unit} {test : M Bool} {acc : List (D × D)} {Q : List (D × D) → Env → W → Prop} : R (dcTurn asg test fk fv d acc) ρ w Q ↔ R (asg d) ρ w fun _ ρ1 w1 => R test ρ1 w1 fun b ρ2 w2 => if b = true then R fk ρ2 w2 fun r1 ρ3 w3 => R fv ρ3 w3 fun r2 ρ4 w4 => R (escR r2) ρ4 w4 fun z ρ5 w5 => ∃ kd ks, peek ρ5 r1 = some kd ∧ keyT kd = some ks ∧ Q (putT acc ks z) ρ5 w5 else Q acc ρ2 w2 := by
  unfold dcTurn
  simp only [R_bind, R_if, R_pure]
  constructor <;> intro h <;> refine h.mono fun _ ρ1 w1 h => h.mono fun b ρ2 w2 h => ?_
  · cases b with
    | false => simpa using h
    | true =>
      simp only [if_true] at h ⊢
      refine h.mono fun r1 ρ3 w3 h => h.mono fun r2 ρ4 w4 h => h.mono fun z ρ5 w5 h => ?_
      obtain ⟨a, ρ6, w6, e, q⟩ := h
      dsimp only at e
      cases e1 : peek ρ5 r1 with
      | none => rw [e1] at e; cases e
      | some kd =>
        rw [e1] at e
        dsimp only at e
        cases e2 : keyT kd with
        | none => rw [e2] at e; cases e
        | some ks =>
          rw [e2] at e
          cases e
          exact ⟨kd, ks, rfl, e2, q⟩
  · cases b with
    | false => simpa using h
    | true =>
      simp only [if_true] at h ⊢
      refine h.mono fun r1 ρ3 w3 h => h.mono fun r2 ρ4 w4 h => h.mono fun z ρ5 w5 h => ?_
      obtain ⟨kd, ks, e1, e2, q⟩ := h
      exact ⟨_, _, _, by simp [e1, e2], q⟩
@[simp] theorem R_lenOM {cn : Str} {den : List D → W → Option (RV × W)} {Q : RV → Env → W → Prop} : R (lenOM cn den fa) ρ w Q ↔ R fa ρ w fun r ρ1 w1 => R (insR cn r) ρ1 w1 fun d ρ2 w2 => Ran (den [d] w2) fun z w3 => ∃ n : Int, z = .sh (.int n) ∧ (0 ≤ n ∧ n ≤ 1000000) ∧ Q (.sh (.int n)) ρ2 w3 := by
  unfold lenOM
  simp only [R_bind, R_runD]
  constructor <;> intro h <;> refine h.mono fun r ρ1 w1 h => h.mono fun d ρ2 w2 h => h.mono fun z w3 h => ?_
  · split at h
    · rename_i n
      split at h
      · rename_i hn
        exact ⟨n, rfl, hn, R_pure.mp h⟩
      · obtain ⟨_, _, _, e, _⟩ := h
        cases e
    · obtain ⟨_, _, _, e, _⟩ := h
      cases e
  · obtain ⟨n, rfl, hn, q⟩ := h
    dsimp only
    rw [if_pos hn]
    exact R_pure.mpr q
@[simp] theorem R_opOM {cn : Str} {den : List D → W → Option (RV × W)} {Q : RV → Env → W → Prop} : R (opOM cn den fa fb) ρ w Q ↔ R fa ρ w fun r1 ρ1 w1 => R fb ρ1 w1 fun r2 ρ2 w2 => R (insR cn r1) ρ2 w2 fun d1 ρ3 w3 => R (insR cn r2) ρ3 w3 fun d2 ρ4 w4 => Ran (den [d1, d2] w4) fun z w5 => Q z ρ4 w5 := by
  unfold opOM
  simp
@[simp] theorem R_ixOM {cn : Str} {den : List D → W → Option (RV × W)} {Q : RV → Env → W → Prop} : R (ixOM cn den fa fb) ρ w Q ↔ R fa ρ w fun r1 ρ1 w1 => R fb ρ1 w1 fun r2 ρ2 w2 => R (insR cn r1) ρ2 w2 fun d1 ρ3 w3 => R (escR r2) ρ3 w3 fun d2 ρ4 w4 => Ran (den [d1, d2] w4) fun z w5 => Q z ρ4 w5 := by
  unfold ixOM
  simp
@[simp] theorem R_chM {g g' : D → D → Option RV} {fc : M RV} {Q : RV → Env → W → Prop} : R (chM g g' fa fb fc) ρ w Q ↔ R fa ρ w fun r1 ρ1 w1 => R fb ρ1 w1 fun r2 ρ2 w2 => R (lift2 g r1 r2) ρ2 w2 fun z ρ3 w3 => ∃ b, z = .sh (.bl b) ∧ if b = true then R fc ρ3 w3 fun r3 ρ4 w4 => R (lift2 g' r2 r3) ρ4 w4 Q else Q (.sh (.bl false)) ρ3 w3 := by
  unfold chM
  simp only [R_bind]
  constructor <;> intro h <;> refine h.mono fun r ρ1 w1 h => h.mono fun r2 ρ2 w2 h => h.mono fun z ρ3 w3 h => ?_
  · split at h
    · exact ⟨true, rfl, by simpa using h⟩
    · exact ⟨false, rfl, by simpa using h⟩
    · obtain ⟨_, _, _, e, _⟩ := h
      cases e
  · obtain ⟨b, rfl, h⟩ := h
    cases b with
    | true => simpa using h
    | false => simpa using h
end
end FD

end sec_EV5
section sec_EV6
set_option maxRecDepth 100000
set_option maxHeartbeats 5000000
/-! EV6: loops over range(n) and over numbered lists. -/
namespace FD
open PySem L2
local instance tl6e : Tabl := { T := [] }
section
variable {α : Type} {ρ : Env} {w : W}
end
end FD

end sec_EV6
section sec_EV7
set_option maxRecDepth 100000
set_option maxHeartbeats 5000000
/-! EV7: rules for runs that raise, and for runs that do not come through. -/
namespace FD
open PySem L2
local instance tl7e : Tabl := { T := [] }
section
variable {α β : Type} {ρ : Env} {w : W} {fa : M (List RV)} {fo : M RV}
@[simp] theorem R_seqX {f : M Fl} {g : M Xn} {Q : Xn → Env → W → Prop} : R (seqX f g) ρ w Q ↔ R f ρ w fun fl ρ1 w1 => fl = .nx ∧ R g ρ1 w1 Q := by
  unfold seqX
  rw [R_bind]
  constructor <;> intro h <;> refine h.mono fun fl ρ1 w1 h => ?_
  · cases fl with
    | nx => exact ⟨rfl, h⟩
    | ct => obtain ⟨_, _, _, e, _⟩ := h; cases e
    | bk => obtain ⟨_, _, _, e, _⟩ := h; cases e
    | ret r => obtain ⟨_, _, _, e, _⟩ := h; cases e
  · obtain ⟨rfl, h⟩ := h
    exact h
@[simp] theorem R_ifX {ft : M Bool} {g g' : M Xn} {Q : Xn → Env → W → Prop} : R (ifX ft g g') ρ w Q ↔ R ft ρ w fun b ρ1 w1 => if b = true then R g ρ1 w1 Q else R g' ρ1 w1 Q := by
  unfold ifX
  rw [R_bind]
  constructor <;> intro h <;> refine h.mono fun b ρ1 w1 h => ?_
  · cases b with
    | true => simpa using h
    | false => simpa using h
  · cases b with
    | true => simpa using h
    | false => simpa using h
abbrev RanX (o : Option (Xn × W)) (Q : Xn → W → Prop) : Prop := Ran o Q
@[simp] theorem R_runX {den : List D → W → Option (Xn × W)} {ds : List D} {Q : Xn → Env → W → Prop} : R (runX den ds) ρ w Q ↔ RanX (den ds w) fun x w' => Q x ρ w' := by
  constructor
  · rintro ⟨x, ρ', w', e, q⟩
    obtain ⟨e1, rfl⟩ := runX_some e
    exact ⟨x, w', e1, q⟩
  · rintro ⟨x, w', e, q⟩
    exact ⟨x, ρ, w', by simp [runX, e], q⟩
@[simp] theorem R_callX {den : List D → W → Option (Xn × W)} {dd : List D} {Q : Xn → Env → W → Prop} : R (callX den dd fa) ρ w Q ↔ R fa ρ w fun rs ρ1 w1 => R (escAll rs) ρ1 w1 fun ds ρ2 w2 => RanX (den (ds ++ dd) w2) fun x w' => Q x ρ2 w' := by
  unfold callX
  simp only [R_bind, R_runX]
@[simp] theorem R_methX {cn m : Str} {den : List D → W → Option (Xn × W)} {dd : List D} {Q : Xn → Env → W → Prop} : R (methX cn m den dd fo fa) ρ w Q ↔ R fo ρ w fun r ρ1 w1 => R (selfR cn m r) ρ1 w1 fun d ρ2 w2 => R fa ρ2 w2 fun rs ρ3 w3 => R (escAll rs) ρ3 w3 fun ds ρ4 w4 => RanX (den (d :: (ds ++ dd)) w4) fun x w' => Q x ρ4 w' := by
  unfold methX
  simp only [R_bind, R_runX]
@[simp] theorem R_raiseX {cn f : Str} {Q : Xn → Env → W → Prop} : R (raiseX cn f fa) ρ w Q ↔ R fa ρ w fun rs ρ1 w1 => R (escAll rs) ρ1 w1 fun ds ρ2 w2 => ∃ d, ds = [d] ∧ Q ⟨cn, [(f, d)]⟩ ρ2 w2 := by
  unfold raiseX
  simp only [R_bind]
  constructor <;> intro h <;> refine h.mono fun rs ρ1 w1 h => h.mono fun ds ρ2 w2 h => ?_
  · match ds, h with
    | [d], h => exact ⟨d, rfl, by simpa using h⟩
    | [], ⟨_, _, _, e, _⟩ => cases e
    | _ :: _ :: _, ⟨_, _, _, e, _⟩ => cases e
  · obtain ⟨d, rfl, q⟩ := h
    simpa using q
theorem R_try1 {ex : List Str} {i j : Nat} {fb : M Fl} {gb : M Xn} {Q : Fl → Env → W → Prop} (h : R fb ρ w Q) : R (tryM ex i j fb gb) ρ w Q := by
  obtain ⟨a, ρ', w', e, q⟩ := h
  exact ⟨a, ρ', w', by simp [tryM, e], q⟩
theorem R_try2 {ex : List Str} {i j : Nat} {fb : M Fl} {gb : M Xn} {Q : Fl → Env → W → Prop} (n : fb ρ w = none) (h : R gb ρ w fun x ρ' w' => ex.contains x.cn = true ∧ Q .nx (((ρ'.set i none).set j (some (.val (.exc x.cn x.gs)))).set i none) w') : R (tryM ex i j fb gb) ρ w Q := by
  obtain ⟨x, ρ', w', e, c, q⟩ := h
  exact ⟨_, _, _, by simp only [tryM, n, e, c, if_true], q⟩
theorem X_run {n : Nat} {g : M Xn} {ds : List D} {Q : Xn → W → Prop} (h : R g (startE n ds) w fun x _ w' => Q x w') : RanX (denX n g ds w) Q := by
  obtain ⟨x, ρ', w', e, q⟩ := h
  exact ⟨x, w', by simp [denX, e], q⟩
theorem X_eq {n : Nat} {g : M Xn} {ds : List D} {x : Xn} {w' : W} (h : R g (startE n ds) w fun y _ v => y = x ∧ v = w') : denX n g ds w = some (x, w') := by
  obtain ⟨y, v, e, rfl, rfl⟩ := X_run (Q := fun y v => y = x ∧ v = w') h
  exact e
/-! runs that do not come through -/
theorem N_bind {f : M α} {k : α → M β} (h : R f ρ w fun a ρ1 w1 => k a ρ1 w1 = none) : bindM f k ρ w = none := by
  obtain ⟨a, ρ1, w1, e, q⟩ := h
  simp [bindM, e, q]
theorem N_bind0 {f : M α} {k : α → M β} (h : f ρ w = none) : bindM f k ρ w = none := by
  simp [bindM, h]
theorem D_none {n : Nat} {b : M Fl} {ds : List D} (h : b (startE n ds) w = none) : denB n b ds w = none := by
  simp [denB, h, endB]
theorem N_run {den : List D → W → Option (RV × W)} {ds : List D} (h : den ds w = none) : runD den ds ρ w = none := by
  simp [runD, h]
end
end FD

end sec_EV7
section sec_EV8
set_option maxRecDepth 100000
set_option maxHeartbeats 5000000
/-! EV8: rules for lambdas, for lists that are lent, for methods of lists. -/
namespace FD
open PySem L2
local instance tl8e : Tabl := { T := [] }
section
variable {ρ : Env} {w : W} {fa : M (List RV)} {fo fe : M RV}
@[simp] theorem R_callB {den : List D → W → Option (RV × W)} {Q : RV → Env → W → Prop} : R (callB den fa) ρ w Q ↔ R fa ρ w fun rs ρ1 w1 => ∃ ds, peeks ρ1 rs = some ds ∧ Ran (den ds w1) fun r w' => ∃ d, r = .sh d ∧ ptD d = true ∧ Q r ρ1 w' := by
  unfold callB
  rw [R_bind]
  constructor <;> intro h <;> refine h.mono fun rs ρ1 w1 h => ?_
  · obtain ⟨r, ρ2, w2, e, q⟩ := h
    obtain ⟨ds, d, w', h1, h2, h3, ez⟩ := callB_some e
    cases ez
    exact ⟨ds, h1, .sh d, _, h2, d, rfl, h3, q⟩
  · obtain ⟨ds, h1, r, w', h2, d, rfl, h3, q⟩ := h
    exact ⟨.sh d, ρ1, w', by simp [h1, h2, h3], q⟩
@[simp] theorem R_isLst {r : RV} {Q : Unit → Env → W → Prop} : R (isLst r) ρ w Q ↔ ∃ ds, peek ρ r = some (.lst ds) ∧ Q () ρ w := by
  constructor
  · rintro ⟨a, ρ1, w1, e, q⟩
    unfold isLst at e
    split at e
    · rename_i ds h
      cases e
      exact ⟨ds, h, q⟩
    · cases e
  · rintro ⟨ds, h, q⟩
    exact ⟨(), ρ, w, by simp [isLst, h], q⟩
@[simp] theorem R_lm {g : D → D → Option RV} {Q : RV → Env → W → Prop} : R (lmM g fo fe) ρ w Q ↔ R fo ρ w fun r1 ρ1 w1 => ∃ ds, peek ρ1 r1 = some (.lst ds) ∧ R fe ρ1 w1 fun r2 ρ2 w2 => R (lift2 g r1 r2) ρ2 w2 Q := by
  unfold lmM
  simp
theorem R_act {tab : Nat → List D → W → Option (RV × W)} {i n : Nat} {ds : List D} {Q : RV → Env → W → Prop} (h : ρ[i]? = some (some (.val (.lam n ds)))) (hl : lfs ds = true) : R (actM tab i) ρ w Q ↔ Ran (tab n ds w) fun r w' => Q r ρ w' := by
  have e : lamAt i ρ = some (n, ds) := by simp [lamAt, h, hl]
  have : actM tab i ρ w = runD (tab n) ds ρ w := by simp [actM, e]
  rw [← R_runD]
  unfold R
  rw [this]
theorem R_actX {tab : Nat → List D → W → Option (Xn × W)} {i n : Nat} {ds : List D} {Q : Xn → Env → W → Prop} (h : ρ[i]? = some (some (.val (.lam n ds)))) (hl : lfs ds = true) : R (actX tab i) ρ w Q ↔ RanX (tab n ds w) fun r w' => Q r ρ w' := by
  have e : lamAt i ρ = some (n, ds) := by simp [lamAt, h, hl]
  have : actX tab i ρ w = runX (tab n) ds ρ w := by simp [actX, e]
  rw [← R_runX]
  unfold R
  rw [this]
theorem N_act {tab : Nat → List D → W → Option (RV × W)} {i n : Nat} {ds : List D} (h : ρ[i]? = some (some (.val (.lam n ds)))) (hl : lfs ds = true) (hn : tab n ds w = none) : actM tab i ρ w = none := by
  have e : lamAt i ρ = some (n, ds) := by simp [lamAt, h, hl]
  simp [actM, e, runD, hn]
@[simp] theorem R_offLsh {d : D} {Q : RV → Env → W → Prop} : R (offL (.sh d)) ρ w Q ↔ lf d = true ∧ Q (.sh d) ρ w := by
  constructor
  · rintro ⟨a, ρ1, w1, e, q⟩
    obtain ⟨h1, h2, h3, h4⟩ := offL_some e
    subst h1 h2 h3
    rcases h4 with ⟨d', e, l⟩ | ⟨d', e, l⟩
    · cases e
      exact ⟨l, q⟩
    · cases e
  · rintro ⟨l, q⟩
    exact ⟨_, _, _, by simp [offL, l]; rfl, q⟩
/-- g(lambda: e, ..), the captured slots being js -/
@[simp] theorem R_lamCall {i : Nat} {js : List Nat} {den : List D → W → Option (RV × W)} {Q : RV → Env → W → Prop} : R (lamCall i js den fa) ρ w Q ↔ R fa ρ w fun rs ρ1 w1 => R (escAll rs) ρ1 w1 fun ds ρ2 w2 => R (escAll (js.map RV.ow)) ρ2 w2 fun cs ρ3 w3 => lfs cs = true ∧ Ran (den (.lam i cs :: ds) w3) fun r w' => R (offL r) ρ3 w' Q := by
  unfold lamCall
  rw [R_bind]
  refine ⟨fun h => h.mono fun rs ρ1 w1 h => ?_, fun h => h.mono fun rs ρ1 w1 h => ?_⟩
  · refine (R_bind.mp h).mono fun ds ρ2 w2 h => (R_bind.mp h).mono fun cs ρ3 w3 h => ?_
    by_cases l : lfs cs = true
    · rw [if_pos l] at h
      exact ⟨l, R_runD.mp (R_bind.mp h)⟩
    · rw [if_neg l] at h
      obtain ⟨_, _, _, e, _⟩ := h
      cases e
  · refine R_bind.mpr (h.mono fun ds ρ2 w2 h => R_bind.mpr (h.mono fun cs ρ3 w3 h => ?_))
    rw [if_pos h.1]
    exact R_bind.mpr (R_runD.mpr h.2)
theorem R_owv {i : Nat} {d : D} {Q : D → Env → W → Prop} (h : ρ[i]? = some (some (.val d))) : R (escR (.ow i)) ρ w Q ↔ Q d ρ w := R_some (by simp [escR, h])
theorem E_none {n : Nat} {g : M RV} {ds : List D} (h : g (startE n ds) w = none) : denE n g ds w = none := by
  unfold denE
  split
  · simp [h]
  · rfl
@[simp] theorem R_opOX {cn : Str} {den : List D → W → Option (Xn × W)} {Q : Xn → Env → W → Prop} : R (opOX cn den fo fe) ρ w Q ↔ R fo ρ w fun r1 ρ1 w1 => R fe ρ1 w1 fun r2 ρ2 w2 => R (insR cn r1) ρ2 w2 fun d1 ρ3 w3 => R (insR cn r2) ρ3 w3 fun d2 ρ4 w4 => RanX (den [d1, d2] w4) fun x w' => Q x ρ4 w' := by
  unfold opOX
  simp only [R_bind, R_runX]
end
end FD

end sec_EV8
section sec_EV9
set_option maxRecDepth 100000
set_option maxHeartbeats 5000000
/-! EV9: rules for lent lists. -/
namespace FD
open PySem L2
local instance tev9 : Tabl := { T := [] }
end FD

end sec_EV9
section sec_FR
set_option maxRecDepth 100000
set_option maxHeartbeats 5000000
/-! FR: fractions, plainly: Euclid's steps, least numbers. -/
namespace KL
/-- a measure of Euclid's steps that falls each time -/
def mu (x y : Nat) : Nat := if y = 0 then 0 else x.log2 + y.log2 + 1 + if x < y then 1 else 0
theorem mu_step {x y : Nat} (hy : 0 < y) : mu y (x % y) < mu x y := by
  have hlt : x % y < y := Nat.mod_lt x hy
  have n1 : ¬ y < x % y := by omega
  unfold mu
  rw [if_neg (show ¬ y = 0 by omega), if_neg n1]
  by_cases hz : x % y = 0
  · rw [if_pos hz]
    omega
  · rw [if_neg hz]
    by_cases hxy : x < y
    · rw [if_pos hxy, Nat.mod_eq_of_lt hxy]
      omega
    · rw [if_neg hxy]
      have h2 : 2 * (x % y) ≤ x := by
        have := Nat.div_add_mod x y
        have hq : 1 ≤ x / y := Nat.div_pos (by omega) hy
        have : y * 1 ≤ y * (x / y) := Nat.mul_le_mul_left y hq
        omega
      have h3 : (x % y).log2 + 1 ≤ x.log2 := by
        rw [← Nat.log2_two_mul hz]
        exact (Nat.le_log2 (by omega)).mpr (Nat.le_trans (Nat.log2_self_le (by omega)) h2)
      omega
theorem mu_le {x y n : Nat} (hx : x < 2 ^ n) (hy : y < 2 ^ n) : mu x y ≤ 2 * n + 2 := by
  have l : ∀ z : Nat, z < 2 ^ n → z.log2 ≤ n := fun z hz => by
    by_cases h0 : z = 0
    · subst h0
      simp
    · exact Nat.le_of_lt ((Nat.log2_lt h0).mpr hz)
  have := l x hx
  have := l y hy
  unfold mu
  split
  · omega
  · split <;> omega
/-- a over b in least numbers -/
def red (a : Int) (b : Nat) : Int × Nat := (a / (Int.gcd a b : Int), b / Int.gcd a b)
theorem gcd_pos {a : Int} {b : Nat} (h : 0 < b) : 0 < Int.gcd a b := by
  rw [Int.gcd]
  exact Nat.gcd_pos_of_pos_right _ (by simpa using h)
theorem red_snd {a : Int} {b : Nat} (h : 0 < b) : 0 < (red a b).2 := by
  have g := gcd_pos (a := a) h
  have d : Int.gcd a b ∣ b := by
    have := Int.gcd_dvd_natAbs_right a b
    simpa using this
  exact Nat.div_pos (Nat.le_of_dvd h d) g
theorem red_mul {a : Int} {b : Nat} (h : 0 < b) : a = (red a b).1 * (Int.gcd a b : Int) ∧ b = (red a b).2 * Int.gcd a b := by
  refine ⟨(Int.ediv_mul_cancel (Int.gcd_dvd_left ..)).symm, (Nat.div_mul_cancel ?_).symm⟩
  have := Int.gcd_dvd_natAbs_right a b
  simpa using this
theorem red_co {a : Int} {b : Nat} (h : 0 < b) : Nat.Coprime (red a b).1.natAbs (red a b).2 := by
  have g := gcd_pos (a := a) h
  have e : (red a b).1.natAbs = a.natAbs / Nat.gcd a.natAbs b := by
    have m := (red_mul (a := a) h).1
    have m2 : a.natAbs = (red a b).1.natAbs * Int.gcd a b := by
      have := congrArg Int.natAbs m
      rw [Int.natAbs_mul] at this
      simpa using this
    have q : Nat.gcd a.natAbs b = Int.gcd a b := by simp [Int.gcd]
    rw [q]
    exact (Nat.div_eq_of_eq_mul_left g m2).symm
  have e2 : (red a b).2 = b / Nat.gcd a.natAbs b := by simp [red, Int.gcd]
  rw [e, e2]
  exact Nat.coprime_div_gcd_div_gcd (by simpa [Int.gcd] using g)
end KL

end sec_FR
section sec_MA
set_option maxRecDepth 100000
set_option maxHeartbeats 5000000
/-! MA: closures, plainly. -/
namespace KL
open ST (Up up_eq setN mem_setN up_setN)
def U : List Nat := [97, 98, 99, 100, 114]
inductive InCl (cs : List Nat) (ds : List (List Nat × Nat)) (l : List Nat) : Nat → Prop
  | base {c : Nat} : c ∈ l → InCl cs ds l c
  | row {c : Nat} : InCl cs ds l 114 → c ∈ cs → InCl cs ds l c
  | dep {lo : List Nat} {c : Nat} : (lo, c) ∈ ds → (∀ x ∈ lo, InCl cs ds l x) → InCl cs ds l c
/-- a closed set -/
def Cld (cs : List Nat) (ds : List (List Nat × Nat)) (f : List Nat) : Prop := (114 ∈ f → ∀ c ∈ cs, c ∈ f) ∧ ∀ p ∈ ds, (∀ x ∈ p.1, x ∈ f) → p.2 ∈ f
section
variable {cs : List Nat} {ds es : List (List Nat × Nat)} {l f : List Nat} {c : Nat}
theorem InCl.le (h : Cld cs ds f) (hl : ∀ x ∈ l, x ∈ f) (hc : InCl cs ds l c) : c ∈ f := by
  induction hc with
  | base h1 => exact hl _ h1
  | row h1 h2 ih => exact h.1 ih _ h2
  | dep h1 h2 ih => exact h.2 _ h1 ih
theorem InCl.mono (h : ∀ p ∈ ds, ∀ m, (∀ x ∈ p.1, InCl cs es m x) → InCl cs es m p.2) (hc : InCl cs ds l c) : InCl cs es l c := by
  induction hc with
  | base h1 => exact .base h1
  | row h1 h2 ih => exact .row ih h2
  | dep h1 h2 ih => exact h _ h1 _ ih
theorem InCl.trans {m : List Nat} (h : ∀ x ∈ m, InCl cs ds l x) (hc : InCl cs ds m c) : InCl cs ds l c := by
  induction hc with
  | base h1 => exact h _ h1
  | row h1 h2 ih => exact .row ih h2
  | dep h1 h2 ih => exact .dep h1 ih
/-- columns, dependences, sets -/
def Col (cs : List Nat) : Prop := cs.Sublist [97, 98, 99, 100] ∧ cs ≠ []
def Set_ (cs l : List Nat) : Prop := l.Sublist (cs ++ [114])
theorem upU : Up U := by decide
theorem Col.sub (h : Col cs) : (cs ++ [114]).Sublist U := by
  have := h.1.append (List.Sublist.refl [114])
  exact this
theorem Col.up (h : Col cs) : Up (cs ++ [114]) := upU.sublist h.sub
theorem Set_.up (h : Col cs) (s : Set_ cs l) : Up l := h.up.sublist s
theorem Set_.len (h : Col cs) (s : Set_ cs l) : l.length ≤ 5 := (s.trans h.sub).length_le
theorem Col.len (h : Col cs) : cs.length ≤ 4 := h.1.length_le
theorem Col.mem (h : Col cs) : ∀ x ∈ cs, x ∈ [97, 98, 99, 100] := fun x hx => h.1.subset hx
noncomputable def cl (cs : List Nat) (ds : List (List Nat × Nat)) (l : List Nat) : List Nat := (cs ++ [114]).filter fun c => @decide (InCl cs ds l c) (Classical.propDecidable _)
end
end KL

end sec_MA
section sec_S1
set_option maxRecDepth 100000
set_option maxHeartbeats 5000000
/-! S1: the program's functions over sets. -/
namespace KL
open PySem L2 FD
open ST (Up up_eq setN mem_setN up_setN)
end KL

end sec_S1
section sec_P4
set_option maxRecDepth 100000
set_option maxHeartbeats 5000000
/-! P4: sets, dependences, closures. -/
namespace KL
open PySem L2 FD
open ST (Up up_eq setN mem_setN up_setN)
end KL

end sec_P4
section sec_P5
set_option maxRecDepth 100000
set_option maxHeartbeats 5000000
/-! P5: schemes. -/
namespace KL
open PySem L2 FD
open ST (Up up_eq setN mem_setN up_setN)
theorem Set_.b {cs a : List Nat} (hC : Col cs) (h : Set_ cs a) : (decide (Up a) && a.all fun c => decide (c ∈ cs ++ [114])) = true := by
  simp only [Bool.and_eq_true, decide_eq_true_eq, List.all_eq_true]
  exact ⟨h.up hC, fun c hc => h.subset hc⟩
end KL

end sec_P5
section sec_SO
set_option maxRecDepth 100000
set_option maxHeartbeats 5000000
/-! SO: the orders of texts by length. -/
namespace FD
open PySem L2 PySem.W PyProof.Rows
local instance tl5 : Tabl := { T := [] }
end FD

end sec_SO
section sec_P6
set_option maxRecDepth 100000
set_option maxHeartbeats 5000000
/-! P6: all sets, closed sets, equal schemes. -/
namespace KL
open PySem L2 FD
open ST (Up up_eq setN mem_setN up_setN)
local instance tl6 : Tabl := { T := [] }
def subsG (acc : List (List Nat)) (l : List Nat) : List (List Nat) := l.foldl (fun acc c => acc ++ acc.map (· ++ [c])) acc
def subsF (l : List Nat) : List (List Nat) := subsG [[]] l
theorem mem_subsG {x : List Nat} : ∀ {l : List Nat} {acc : List (List Nat)}, x ∈ subsG acc l ↔ ∃ a ∈ acc, ∃ s : List Nat, s.Sublist l ∧ x = a ++ s
  | [], acc => by
    constructor
    · intro h
      exact ⟨x, h, [], List.Sublist.slnil, by simp⟩
    · rintro ⟨a, h, s, hs, rfl⟩
      have : s = [] := by simpa using hs
      subst this
      simpa [subsG] using h
  | c :: l, acc => by
    show x ∈ subsG (acc ++ acc.map (· ++ [c])) l ↔ _
    rw [mem_subsG]
    constructor
    · rintro ⟨a, h, s, hs, rfl⟩
      rcases List.mem_append.mp h with h | h
      · exact ⟨a, h, s, hs.cons c, rfl⟩
      · obtain ⟨b, hb, rfl⟩ := List.mem_map.mp h
        exact ⟨b, hb, c :: s, hs.cons_cons c, by simp⟩
    · rintro ⟨a, h, s, hs, rfl⟩
      cases hs with
      | cons _ hs => exact ⟨a, List.mem_append_left _ h, s, hs, rfl⟩
      | @cons_cons s' _ _ hs => exact ⟨a ++ [c], List.mem_append_right _ (List.mem_map.mpr ⟨a, h, rfl⟩), s', hs, by simp⟩
theorem mem_subsF {x l : List Nat} : x ∈ subsF l ↔ x.Sublist l := by
  unfold subsF
  rw [mem_subsG]
  simp
theorem Col.in {cs : List Nat} (h : Col cs) : cs ∈ subsF [97, 98, 99, 100] := mem_subsF.mpr h.1
def sets (cs : List Nat) : List (List Nat) := (SK.byLen ((subsF (cs ++ [114])).map st)).map (·.cps.toList)
noncomputable def closed (cs : List Nat) (ds : List (List Nat × Nat)) : List (List Nat) := (sets cs).filter fun l => decide (cl cs ds l = l)
end KL

end sec_P6
section sec_P1
set_option maxRecDepth 100000
set_option maxHeartbeats 5000000
/-! P1: the draws, plainly. -/
namespace KL
open PySem L2 FD

abbrev vi (i : Int) : Option Slot := some (.val (.int i))
abbrev vd : Option Slot := some (.val .draw)
theorem mulD_int {a b : Int} (h : a.natAbs.log2 + b.natAbs.log2 < 1000000) : mulD (.int a) (.int b) = some (.sh (.int (a * b))) := by simp [mulD, h]
theorem inner (t f p : Int) (hp : 0 < p) (hp2 : p < 2 ^ 31) (ht : 0 ≤ t) (ht2 : t < 2 ^ 40) {Q : Fl → FD.Env → W → Prop} {w : W} (hq : ∀ b x, 0 ≤ b → b < 2 ^ 60 → Q .nx [vd, vi t, vi f, vi p, vi b, x] w) :
    ∀ (cs : List Int) (b : Int) (x : Option Slot), (∀ c ∈ cs, 0 ≤ c ∧ c < 2 ^ 31) → 0 ≤ b → b < 2 ^ 60 →
    R (forL (gNameM 5) (setM' 4 (op2M (intD modI) (bM intFD (consA (op2M addD (op2M addD (op2M mulD (varM 4) (pureM (.sh (.int 48271)))) (varM 5)) (varM 1)) (pureM []))) (varM 3))) (cs.map D.int)) [vd, vi t, vi f, vi p, vi b, x] w Q := by
  intro cs b x hcs hb hb2
  refine R_forL (fun ds ρ w' => w' = w ∧ ∃ b x, ∃ cs : List Int, ds = cs.map D.int ∧ (∀ c ∈ cs, 0 ≤ c ∧ c < 2 ^ 31) ∧ 0 ≤ b ∧ b < 2 ^ 60 ∧ ρ = [vd, vi t, vi f, vi p, vi b, x]) ?_ ?_ _ _ _ ⟨rfl, b, x, cs, rfl, hcs, hb, hb2, rfl⟩
  · rintro d ds ρ w' ⟨rfl, b, x, cs, e, hcs, hb, hb2, rfl⟩
    cases cs with
    | nil => cases e
    | cons c cs =>
      cases e
      have l1 := lg hb hb2 (by decide)
      have l2 : (48271 : Int).natAbs.log2 = 15 := by decide
      have hm : mulD (.int b) (.int 48271) = some (.sh (.int (b * 48271))) := mulD_int (by omega)
      simp [R_var, R_liftN, peeks, peek, intFD, intD, modI, hp, hm, addD]
      have h1 := Int.emod_nonneg (b * 48271 + c + t) (by omega : p ≠ 0)
      have h2 := Int.emod_lt_of_pos (b * 48271 + c + t) hp
      exact ⟨_, _, cs, rfl, fun c' h => by have := hcs c' (List.mem_cons_of_mem _ h); omega, h1, by omega, rfl, rfl⟩
  · rintro ρ w' ⟨rfl, b, x, cs, e, _, hb, hb2, rfl⟩
    exact hq b x hb hb2
structure Ok (w : W) : Prop where
  t0 : 0 ≤ w.turn
  t1 : w.turn < 2 ^ 39
  cs : ∀ c ∈ w.cells, 0 ≤ c ∧ c < 2 ^ 31
theorem fdivI_ok {a b : Int} (h : 0 < b) (h2 : b < 2 ^ 100) : fdivI a b = some (.sh (.int (a / b))) := by
  have l := lg (i := b) (n := 100) (by omega) h2 (by decide)
  simp [fdivI, h]
  omega
theorem pow32 (n : Nat) : (2 : Int) ^ (n + 32) = 2 ^ n * 4294967296 := by
  rw [Int.pow_add]
  rfl
theorem mixed (w : W) (h : Ok w) : Ran (D_law_mixed [.draw] w) fun r w' => ∃ x, r = .sh (.int x) ∧ w' = { w with turn := w.turn + 1 } := by
  refine D_run ?_
  have t0 := h.t0
  have t1 := h.t1
  have l1 : (61441 : Int).natAbs.log2 = 15 := by decide
  have l2 := lg (i := w.turn + 1) (n := 40) (by omega) (by omega) (by decide)
  have hm : mulD (.int 61441) (.int (w.turn + 1)) = some (.sh (.int (61441 * (w.turn + 1)))) := mulD_int (by omega)
  simp [d_law_mixed, R_var, addD, startE, R_iterF, iterD]
  refine R_forL (fun ds ρ w' => w' = { w with turn := w.turn + 1 } ∧ ∃ f x3 x4 x5, ∃ ps : List Int, ds = ps.map D.int ∧ ps.length ≤ 4 ∧ (∀ p ∈ ps, 1000 < p ∧ p < 2 ^ 31) ∧ 0 ≤ f ∧ f < 2 ^ (32 * (4 - ps.length)) ∧ ρ = [vd, vi (w.turn + 1), vi f, x3, x4, x5]) ?_ ?_ _ _ _ ⟨rfl, 0, none, none, none, [2147483629, 2147483587, 2147483579, 2147483563], rfl, by decide, by decide, by decide, by decide, rfl⟩
  · rintro d ds ρ w' ⟨rfl, f, x3, x4, x5, ps, e, hl, hps, hf, hf2, rfl⟩
    cases ps with
    | nil => cases e
    | cons p ps =>
      cases e
      obtain ⟨hp1, hp2⟩ := hps p List.mem_cons_self
      have fd := fdivI_ok (a := p) (b := 19) (by decide) (by decide)
      simp [R_var, intD, hm, fd, addD]
      refine inner _ _ _ (by omega) hp2 (by omega) (by omega) (fun b x hb hb2 => ?_) w.cells _ _ h.cs (by omega) (by omega)
      have pw : powI b 5 = some (.sh (.int (b ^ 5))) := by
        have hb3 : b.natAbs < 18446744073709551616 := by omega
        simp [powI, hb3]
      have lf : f.natAbs.log2 < 129 := lg hf (Int.lt_of_lt_of_le hf2 (by
        have : 32 * (4 - (p :: ps).length) ≤ 129 := by omega
        exact_mod_cast Nat.pow_le_pow_right (by decide) this)) (by decide)
      have lM : (2147483647 : Int).natAbs.log2 = 30 := by decide
      have hm2 : mulD (.int f) (.int 2147483647) = some (.sh (.int (f * 2147483647))) := mulD_int (by omega)
      have hp0 : 0 < p := by omega
      simp [R_var, R_liftN, peeks, peek, intFD, intD, pw, modI, hp0, hm2, addD]
      have g1 := Int.emod_nonneg (b ^ 5) (by omega : p ≠ 0)
      have g2 := Int.emod_lt_of_pos (b ^ 5) hp0
      have eP : 32 * (4 - ps.length) = 32 * (4 - (p :: ps).length) + 32 := by
        simp only [List.length_cons] at hl ⊢
        omega
      refine ⟨_, _, _, _, ps, rfl, by simp only [List.length_cons] at hl; omega, fun q hq => hps q (List.mem_cons_of_mem _ hq), ?_, ?_, rfl, rfl, rfl, rfl⟩
      · omega
      · rw [eP, pow32]
        generalize (2 : Int) ^ (32 * (4 - (p :: ps).length)) = PP at hf2 ⊢
        omega
  · rintro ρ w' ⟨rfl, f, x3, x4, x5, ps, e, _, _, _, _, rfl⟩
    simp [R_var, outR]
end KL

end sec_P1
section sec_FRp
set_option maxRecDepth 100000
set_option maxHeartbeats 5000000
/-! FRp: fractions in the program and in the laws. -/
namespace KL
open PySem L2 FD
local instance tfrp : Tabl := { T := [] }
variable {w : W}
abbrev frD (x : Int × Nat) : D := .tup [.int x.1, .int (x.2 : Int)]
theorem absD_nat (a : Int) : absD [.int a] = some (.sh (.int (a.natAbs : Int))) := by
  simp only [absD]
  congr 3
  split <;> omega
theorem gt0 (y : Nat) : gtD (.int (y : Int)) (.int 0) = some (.sh (.bl (decide (0 < y)))) := by
  have : decide ((0 : Int) < y) = decide (0 < y) := by rw [decide_eq_decide]; omega
  simp [gtD, intD, i0, this]
theorem modI_nat {x y : Nat} (h : 0 < y) : modI (x : Int) (y : Int) = some (.sh (.int ((x % y : Nat) : Int))) := by
  have : (0 : Int) < y := by omega
  unfold modI
  rw [if_pos this]
  simp
theorem gcd_step (x y : Nat) : Nat.gcd y (x % y) = Nat.gcd x y := by
  rw [Nat.gcd_comm x y, Nat.gcd_rec y x, Nat.gcd_comm]
theorem divisor_of_eq {a : Int} {b : Nat} (h1 : a.natAbs < 2 ^ 400000) (h2 : b < 2 ^ 400000) : D_divisor_of [.int a, .int (b : Int)] w = some (.sh (.int (Int.gcd a b : Int)), w) := by
  refine D_eq ?_
  unfold d_divisor_of
  refine R_then (fun ρ u => w = u ∧ ρ = [some (.val (.int (a.natAbs : Int))), some (.val (.int (b : Int)))]) ?_ ?_
  · simp [startE, R_var, R_liftNg, peek, peeks, absD_nat]
  rintro _ _ ⟨rfl, rfl⟩
  obtain ⟨V, hV⟩ : ∃ V : FD.Env → W → Prop, ∀ ρ u, V ρ u ↔ (w = u ∧ ρ = [some (.val (.int (Int.gcd a b : Int))), some (.val (.int 0))]) := ⟨_, fun _ _ => Iff.rfl⟩
  refine R_then V ?_ ?_
  · obtain ⟨J, hJ⟩ : ∃ J : Nat → FD.Env → W → Prop, ∀ k ρ u, J k ρ u ↔ ∃ x y : Nat, w = u ∧ ρ = [some (.val (.int (x : Int))), some (.val (.int (y : Int)))] ∧ Nat.gcd x y = Int.gcd a b ∧ mu x y = k := ⟨_, fun _ _ _ => Iff.rfl⟩
    obtain ⟨B, hB⟩ : ∃ B : Nat → FD.Env → W → Prop, ∀ k ρ u, B k ρ u ↔ ∃ x y : Nat, w = u ∧ ρ = [some (.val (.int (x : Int))), some (.val (.int (y : Int)))] ∧ Nat.gcd x y = Int.gcd a b ∧ mu x y = k ∧ 0 < y := ⟨_, fun _ _ _ => Iff.rfl⟩
    refine R_while2 J B ?_ ?_ 1000000 (mu a.natAbs b) _ _ (by have := mu_le h1 h2; omega) ((hJ _ _ _).mpr ⟨a.natAbs, b, rfl, rfl, by simp [Int.gcd], rfl⟩)
    · intro k ρ u h
      obtain ⟨x, y, rfl, rfl, hg, hk⟩ := (hJ _ _ _).mp h
      simp [R_var, R_lift2g, peek, gt0]
      by_cases hy : 0 < y
      · simp [hy]
        exact .inr ((hB _ _ _).mpr ⟨x, y, rfl, rfl, hg, hk, hy⟩)
      · obtain rfl : y = 0 := by omega
        rw [Nat.gcd_zero_right] at hg
        simp
        exact (hV _ _).mpr ⟨rfl, by rw [hg]⟩
    · intro k ρ u h
      obtain ⟨x, y, rfl, rfl, hg, hk, hy⟩ := (hB _ _ _).mp h
      simp [R_var, R_lift2g, peek, intD, modI_nat hy]
      refine ⟨mu y (x % y), by rw [← hk]; exact mu_step hy, (hJ _ _ _).mpr ⟨y, x % y, rfl, by simp, by rw [gcd_step]; exact hg, rfl⟩⟩
  intro ρ1 w1 hv
  obtain ⟨rfl, rfl⟩ := (hV _ _).mp hv
  simp [R_var, outR]
theorem fdivI_pos {a : Int} {g : Nat} (h : 0 < g) (h2 : g < 2 ^ 8000) : fdivI a (g : Int) = some (.sh (.int (a / (g : Int)))) := by
  have e1 : (0 : Int) < g := by omega
  have e2 : (g : Int).natAbs.log2 < 9000 := by
    have : (g : Int).natAbs = g := by simp
    rw [this]
    have := (Nat.log2_lt (n := g) (k := 8000) (by omega)).mpr h2
    omega
  unfold fdivI
  rw [if_pos ⟨e1, e2⟩]
theorem gcd_le' {a : Int} {b : Nat} (h : 0 < b) : Int.gcd a b ≤ b := by
  have := Int.gcd_dvd_natAbs_right a b
  exact Nat.le_of_dvd h (by simpa using this)
theorem pow_mono' {n m : Nat} (h : n ≤ m) {x : Nat} (hx : x < 2 ^ n) : x < 2 ^ m := Nat.lt_of_lt_of_le hx (Nat.pow_le_pow_right (by decide) h)
theorem divided_eq {a : Int} {b : Nat} (hb : 0 < b) (h1 : a.natAbs < 2 ^ 400000) (h2 : b < 2 ^ 8000) : D_divided [.int a, .int (b : Int)] w = some (.sh (frD (red a b)), w) := by
  have g0 := gcd_pos (a := a) hb
  have gl := gcd_le' (a := a) hb
  have c1 := fun w => divisor_of_eq (w := w) (a := a) (b := b) h1 (pow_mono' (by omega) h2)
  have m1 : mulD (.int (Int.gcd a b : Int)) (.int 1) = some (.sh (.int (Int.gcd a b : Int))) := by
    have e : (Int.gcd a b : Int).natAbs.log2 < 8000 := by
      have q : (Int.gcd a b : Int).natAbs = Int.gcd a b := by simp
      rw [q]
      exact (Nat.log2_lt (by omega)).mpr (Nat.lt_of_le_of_lt gl h2)
    have e1 : (1 : Int).natAbs.log2 = 0 := by decide
    have := mulD_int (a := (Int.gcd a b : Int)) (b := 1) (by rw [e1]; omega)
    rw [this, Int.mul_one]
  have d1 := fdivI_pos (a := a) g0 (Nat.lt_of_le_of_lt gl h2)
  have d2 := fdivI_pos (a := (b : Int)) g0 (Nat.lt_of_le_of_lt gl h2)
  refine D_eq ?_
  simp [d_divided, startE, R_var, c1, R_lift2g, peek, gt0, hb, m1, intD, d1, d2, outR, red]
theorem law_divided_eq {a : Int} {b : Nat} (hb : 0 < b) (h1 : a.natAbs < 2 ^ 400000) (h2 : b < 2 ^ 8000) : D_law_divided [.int a, .int (b : Int)] w = some (.sh (frD (red a b)), w) := by
  have g0 := gcd_pos (a := a) hb
  have gl := gcd_le' (a := a) hb
  have d1 := fdivI_pos (a := a) g0 (Nat.lt_of_le_of_lt gl h2)
  have d2 := fdivI_pos (a := (b : Int)) g0 (Nat.lt_of_le_of_lt gl h2)
  have iF : ∀ i : Int, intFD [.int i] = some (.sh (.int i)) := fun _ => rfl
  refine D_eq ?_
  unfold d_law_divided
  refine R_then (fun ρ u => w = u ∧ ρ = [some (.val (.int a)), some (.val (.int (b : Int))), some (.val (.int (a.natAbs : Int))), some (.val (.int (b : Int)))]) ?_ ?_
  · simp [startE, R_var, R_liftNg, peek, peeks, iF, absD_nat]
  rintro _ _ ⟨rfl, rfl⟩
  obtain ⟨V, hV⟩ : ∃ V : FD.Env → W → Prop, ∀ ρ u, V ρ u ↔ (w = u ∧ ρ = [some (.val (.int a)), some (.val (.int (b : Int))), some (.val (.int (Int.gcd a b : Int))), some (.val (.int 0))]) := ⟨_, fun _ _ => Iff.rfl⟩
  refine R_then V ?_ ?_
  · obtain ⟨J, hJ⟩ : ∃ J : Nat → FD.Env → W → Prop, ∀ k ρ u, J k ρ u ↔ ∃ x y : Nat, w = u ∧ ρ = [some (.val (.int a)), some (.val (.int (b : Int))), some (.val (.int (x : Int))), some (.val (.int (y : Int)))] ∧ Nat.gcd x y = Int.gcd a b ∧ mu x y = k := ⟨_, fun _ _ _ => Iff.rfl⟩
    obtain ⟨B, hB⟩ : ∃ B : Nat → FD.Env → W → Prop, ∀ k ρ u, B k ρ u ↔ ∃ x y : Nat, w = u ∧ ρ = [some (.val (.int a)), some (.val (.int (b : Int))), some (.val (.int (x : Int))), some (.val (.int (y : Int)))] ∧ Nat.gcd x y = Int.gcd a b ∧ mu x y = k ∧ 0 < y := ⟨_, fun _ _ _ => Iff.rfl⟩
    refine R_while2 J B ?_ ?_ 1000000 (mu a.natAbs b) _ _ (by have := mu_le h1 (pow_mono' (m := 400000) (by omega) h2); omega) ((hJ _ _ _).mpr ⟨a.natAbs, b, rfl, rfl, by simp [Int.gcd], rfl⟩)
    · intro k ρ u h
      obtain ⟨x, y, rfl, rfl, hg, hk⟩ := (hJ _ _ _).mp h
      simp [R_var, R_lift2g, peek, gt0]
      by_cases hy : 0 < y
      · simp [hy]
        exact .inr ((hB _ _ _).mpr ⟨x, y, rfl, rfl, hg, hk, hy⟩)
      · obtain rfl : y = 0 := by omega
        rw [Nat.gcd_zero_right] at hg
        simp
        exact (hV _ _).mpr ⟨rfl, by rw [hg]⟩
    · intro k ρ u h
      obtain ⟨x, y, rfl, rfl, hg, hk, hy⟩ := (hB _ _ _).mp h
      simp [R_var, R_lift2g, R_liftNg, peek, peeks, iF, intD, modI_nat hy]
      refine ⟨mu y (x % y), by rw [← hk]; exact mu_step hy, (hJ _ _ _).mpr ⟨y, x % y, rfl, by simp, by rw [gcd_step]; exact hg, rfl⟩⟩
  intro ρ1 w1 hv
  obtain ⟨rfl, rfl⟩ := (hV _ _).mp hv
  simp [R_var, R_lift2g, peek, intD, d1, d2, outR, red]
/-- numbers of few bits -/
theorem mulD_bits {i j : Int} {n m : Nat} (h1 : i.natAbs < 2 ^ n) (h2 : j.natAbs < 2 ^ m) (hs : n + m ≤ 900000) : mulD (.int i) (.int j) = some (.sh (.int (i * j))) := by
  have l : ∀ (z : Int) (k : Nat), z.natAbs < 2 ^ k → z.natAbs.log2 ≤ k := fun z k hz => by
    by_cases h0 : z.natAbs = 0
    · rw [h0]
      simp
    · exact Nat.le_of_lt ((Nat.log2_lt h0).mpr hz)
  have := l i n h1
  have := l j m h2
  exact mulD_int (by omega)
theorem bits_mul {i j : Int} {n m : Nat} (h1 : i.natAbs < 2 ^ n) (h2 : j.natAbs < 2 ^ m) : (i * j).natAbs < 2 ^ (n + m) := by
  rw [Int.natAbs_mul, Nat.pow_add]
  exact Nat.mul_lt_mul'' h1 h2
theorem nbits_mul {i j n m : Nat} (h1 : i < 2 ^ n) (h2 : j < 2 ^ m) : i * j < 2 ^ (n + m) := by
  rw [Nat.pow_add]
  exact Nat.mul_lt_mul'' h1 h2
theorem frD_0 (x : Int × Nat) : ixD (frD x) (.int 0) = some (.sh (.int x.1)) := rfl
theorem frD_1 (x : Int × Nat) : ixD (frD x) (.int 1) = some (.sh (.int (x.2 : Int))) := rfl
theorem law_by_eq {x y : Int × Nat} {n m k l : Nat} (hx : 0 < x.2) (hy : 0 < y.2) (h1 : x.1.natAbs < 2 ^ n) (h2 : y.1.natAbs < 2 ^ m) (h3 : x.2 < 2 ^ k) (h4 : y.2 < 2 ^ l) (b1 : n + m ≤ 400000) (b2 : k + l ≤ 8000) : D_law_by [frD x, frD y] w = some (.sh (frD (red (x.1 * y.1) (x.2 * y.2))), w) := by
  have m1 := mulD_bits h1 h2 (by omega)
  have m2 : mulD (.int (x.2 : Int)) (.int (y.2 : Int)) = some (.sh (.int ((x.2 * y.2 : Nat) : Int))) := by
    rw [mulD_bits (n := k) (m := l) (by simpa using h3) (by simpa using h4) (by omega)]
    simp
  have c1 := fun w => law_divided_eq (w := w) (a := x.1 * y.1) (b := x.2 * y.2) (Nat.mul_pos hx hy) (pow_mono' b1 (bits_mul h1 h2)) (pow_mono' b2 (nbits_mul h3 h4))
  refine D_eq ?_
  rw [Int.natCast_mul] at m2
  simp only [Int.natCast_mul] at c1
  simp [d_law_by, startE, R_var, R_lift2g, peek, frD_0, frD_1, m1, m2, c1, outR]
end KL

end sec_FRp
section sec_P2
set_option maxRecDepth 100000
set_option maxHeartbeats 5000000
/-! P2: take, pick. -/
namespace KL
open PySem L2 FD
/-- b: how many more draws there is room for -/
structure Okb (b : Nat) (w : W) : Prop where
  t0 : 0 ≤ w.turn
  t1 : w.turn + b < 2 ^ 39
  cs : ∀ c ∈ w.cells, 0 ≤ c ∧ c < 2 ^ 31
  wi : w.wide.length < 1000000
theorem Okb.ok {b : Nat} {w : W} (h : Okb b w) : Ok w := ⟨h.t0, by have := h.t1; omega, h.cs⟩
theorem Okb.mono {b c : Nat} {w : W} (h : Okb b w) (hc : c ≤ b) : Okb c w := ⟨h.t0, by have := h.t1; omega, h.cs, h.wi⟩
theorem R_take {b : Nat} {w : W} {n : Int} {Q : RV → W → Prop} (h : Okb (b + 1) w) (hn : 0 < n) (hn2 : n < 2 ^ 100) (q : ∀ k w', 0 ≤ k → k < n → Okb b w' → Q (.sh (.int k)) w') : Ran (D_law_take [.draw, .int n] w) Q := by
  refine D_run ?_
  have fin : ∀ (x : Int) w', Okb b w' → Q (.sh (.int (x % n))) w' := fun x w' h => q _ _ (Int.emod_nonneg _ (by omega)) (Int.emod_lt_of_pos _ hn) h
  have fd := fun a => fdivI_ok (a := a) hn hn2
  have t0 := h.t0
  have t1 := h.t1
  by_cases hr : w.rest = 0
  · cases hw : w.wide with
    | nil =>
      obtain ⟨r, w', e, x, rfl, rfl⟩ := mixed w h.ok
      simp [d_law_take, startE, R_var, eqD_int, hr, hw, e, R_liftN, peeks, peek, intFD, intD, modI, hn, fd, outR]
      exact fin _ _ ⟨by simp; omega, by simp; omega, h.cs, by simp⟩
    | cons x xs =>
      have hx : xs.length < 1000000 := by
        have := h.wi
        rw [hw] at this
        simp at this
        omega
      simp [d_law_take, startE, R_var, eqD_int, hr, hw]
      refine R_drPop ?_
      simp [R_var]
      refine ⟨x, xs, hw, hx, ?_⟩
      simp [R_var, R_liftN, peeks, peek, intFD, intD, modI, hn, fd, outR]
      exact fin _ _ ⟨h.t0, by simp; omega, h.cs, hx⟩
  · simp [d_law_take, startE, R_var, eqD_int, hr, R_liftN, peeks, peek, intFD, intD, modI, hn, fd, outR]
    exact fin _ _ ⟨h.t0, by simp; omega, h.cs, h.wi⟩
end KL

end sec_P2
section sec_P3
set_option maxRecDepth 100000
set_option maxHeartbeats 5000000
/-! P3: pick. -/
namespace KL
open PySem L2 FD
open ST (Up up_eq setN mem_setN up_setN)
theorem R_pick {b : Nat} {w : W} {l : List D} {Q : RV → W → Prop} (h : Okb (b + 1) w) (hl : l ≠ []) (hl2 : l.length ≤ 1000000) (q : ∀ d w', d ∈ l → Okb b w' → Q (.sh d) w') : Ran (D_law_pick [.draw, .lst l] w) Q := by
  refine D_run ?_
  simp [d_law_pick, startE, R_var, R_liftN, peeks, peek, lenD]
  have : 0 < l.length := List.length_pos_iff.mpr hl
  refine R_take h (by omega) (by omega) fun k w' k0 k1 h' => ?_
  obtain ⟨n, rfl⟩ := Int.eq_ofNat_of_zero_le k0
  have hn : n < l.length := by omega
  simp [ixD, atI_nat l n hn, outR]
  exact q _ _ (List.getElem_mem hn) h'
end KL

end sec_P3
section sec_P12
set_option maxRecDepth 100000
set_option maxHeartbeats 5000000
/-! P12: the start of all draws; a law's run. -/
namespace KL
open PySem L2 FD
open ST (Up up_eq setN mem_setN up_setN)
local instance tl13 : Tabl := { T := [] }
theorem asInts_m {α : Type} (f : α → Int) (l : List α) : asInts (l.map fun a => D.int (f a)) = some (l.map f) := by
  have e : (l.map fun a => D.int (f a)) = (l.map f).map D.int := by simp
  rw [e, asInts_map]
theorem beg_ok {ns : List Int} (h : ns.length ≤ 63) : ∃ wi ci, beg ns = some (wi, ci) ∧ wi.length ≤ 63 ∧ ∀ c ∈ ci, 0 ≤ c ∧ c < 2 ^ 31 := by
  have p18 : powI 10 18 = some (.sh (.int 1000000000000000000)) := by simp [powI]
  have ab : ∀ n : Int, absD [.int n] = some (.sh (.int (n.natAbs : Int))) := fun n => by
    simp only [absD]
    congr 3
    omega
  have h1 : R d1_law_begun (startE 3 [.scr ns]) ⟨[], [], 0, 0⟩ fun fl ρ w => fl = .nx ∧ w = ⟨[], [], 0, 0⟩ ∧ ρ = [some (.val (.scr ns)), some (.own (.lst ((ns.filter fun n => decide (1000000000000000000 ≤ (n.natAbs : Int))).map fun n => D.int (n.natAbs - 1000000000000000000)))), none] := by
    simp [d1_law_begun, startE, R_lcM, R_var, iterD]
    refine ⟨⟨rfl, by omega⟩, R_lcFil D.int (fun n => decide (1000000000000000000 ≤ (n.natAbs : Int))) (fun n => D.int (n.natAbs - 1000000000000000000)) ns (fun n hn => ?_) ?_⟩
    · simp [R_var, wipeE, R_liftN, peeks, peek, ab, intD, p18, i0]
      by_cases hc : (1000000000000000000 : Int) ≤ n.natAbs
      · simp [hc, R_var, R_liftN, peeks, peek, ab, intD, p18, i0]
      · simp [hc]
        omega
    · simp [wipeE, restE]
  have h2 : R d2_law_begun [some (.val (.scr ns)), some (.own (.lst ((ns.filter fun n => decide (1000000000000000000 ≤ (n.natAbs : Int))).map fun n => D.int (n.natAbs - 1000000000000000000)))), none] ⟨[], [], 0, 0⟩ fun r ρ w => r = .fr (.lst (ns.map fun n => D.int ((n.natAbs : Int) % 2147483629))) ∧ ρ = [some (.val (.scr ns)), some (.own (.lst ((ns.filter fun n => decide (1000000000000000000 ≤ (n.natAbs : Int))).map fun n => D.int (n.natAbs - 1000000000000000000)))), none] := by
    simp [d2_law_begun, startE, R_lcM, R_var, iterD]
    refine ⟨⟨rfl, by omega⟩, R_lcMap D.int (fun n => D.int ((n.natAbs : Int) % 2147483629)) ns (fun n hn => ?_) ?_⟩
    · simp [R_var, wipeE, R_liftN, peeks, peek, ab, intD, intFD, modI]
    · simp [wipeE, restE]
  obtain ⟨fl, ρ, w, e1, rfl, rfl, rfl⟩ := h1
  obtain ⟨r, ρ2, w2, e2, rfl, rfl⟩ := h2
  refine ⟨(ns.filter fun n => decide (1000000000000000000 ≤ (n.natAbs : Int))).map fun n => (n.natAbs : Int) - 1000000000000000000, ns.map fun n => (n.natAbs : Int) % 2147483629, ?_, ?_, ?_⟩
  · unfold beg begD
    rw [e1]
    simp only [e2, ownL, List.getElem?_cons_succ, List.getElem?_cons_zero, asInts_m]
  · rw [List.length_map]
    exact Nat.le_trans (List.length_filter_le _ _) h
  · intro c hc
    obtain ⟨n, _, rfl⟩ := List.mem_map.mp hc
    have := Int.emod_nonneg (n.natAbs : Int) (by decide : (2147483629 : Int) ≠ 0)
    have := Int.emod_lt_of_pos (n.natAbs : Int) (by decide : (0 : Int) < 2147483629)
    omega
theorem law_run {n : Nat} {d : M Fl} (h : ∀ ns w, ns.length ≤ 63 → Okb (2 ^ 38) w → R d ((startE n [.scr ns]).set 1 (some (.val .draw))) w fun fl _ _ => fl = .ret (.sh (.bl true))) : ∀ ns : List Int, ns.length ≤ 63 → denL n beg d ns = true := by
  intro ns hns
  obtain ⟨wi, ci, e, h1, h2⟩ := beg_ok hns
  obtain ⟨fl, ρ', w', e2, rfl⟩ := h ns ⟨wi, ci, 0, 0⟩ hns ⟨by simp, by simp, h2, by simp; omega⟩
  unfold denL
  rw [e]
  simp only [e2, endT]
end KL

end sec_P12
section sec_K02n
set_option maxRecDepth 100000
set_option maxHeartbeats 1000000
/-! K02n: drawn numbers. -/
namespace KL
open PySem L2 FD
local instance tk02n : Tabl := { T := [] }
theorem fdivI_b {a b : Int} (h : 0 < b) (h2 : b < 2 ^ 1000) : fdivI a b = some (.sh (.int (a / b))) := by
  have l := lg (i := b) (n := 1000) (by omega) h2 (by decide)
  simp [fdivI, h]
  omega
theorem R_takeB {b : Nat} {w : W} {n : Int} {Q : RV → W → Prop} (h : Okb (b + 1) w) (hn : 0 < n) (hn2 : n < 2 ^ 1000) (q : ∀ k w', 0 ≤ k → k < n → Okb b w' → Q (.sh (.int k)) w') : Ran (D_law_take [.draw, .int n] w) Q := by
  refine D_run ?_
  have fin : ∀ (x : Int) w', Okb b w' → Q (.sh (.int (x % n))) w' := fun x w' h => q _ _ (Int.emod_nonneg _ (by omega)) (Int.emod_lt_of_pos _ hn) h
  have fd := fun a => fdivI_b (a := a) hn hn2
  have t0 := h.t0
  have t1 := h.t1
  by_cases hr : w.rest = 0
  · cases hw : w.wide with
    | nil =>
      obtain ⟨r, w', e, x, rfl, rfl⟩ := mixed w h.ok
      simp [d_law_take, startE, R_var, eqD_int, hr, hw, e, R_liftN, peeks, peek, intFD, intD, modI, hn, fd, outR]
      exact fin _ _ ⟨by simp; omega, by simp; omega, h.cs, by simp⟩
    | cons x xs =>
      have hx : xs.length < 1000000 := by
        have := h.wi
        rw [hw] at this
        simp at this
        omega
      simp [d_law_take, startE, R_var, eqD_int, hr, hw]
      refine R_drPop ?_
      simp [R_var]
      refine ⟨x, xs, hw, hx, ?_⟩
      simp [R_var, R_liftN, peeks, peek, intFD, intD, modI, hn, fd, outR]
      exact fin _ _ ⟨h.t0, by simp; omega, h.cs, hx⟩
  · simp [d_law_take, startE, R_var, eqD_int, hr, R_liftN, peeks, peek, intFD, intD, modI, hn, fd, outR]
    exact fin _ _ ⟨h.t0, by simp; omega, h.cs, h.wi⟩
theorem pow10 (n : Nat) (hn : n ≤ 100) : powI 10 (n : Int) = some (.sh (.int (10 ^ n))) := by
  unfold powI
  rw [if_pos ⟨by omega, by omega, by decide⟩]
  simp
theorem R_number {b : Nat} {w : W} {Q : RV → W → Prop} (h : Okb (b + 4) w) (q : ∀ i w', i.natAbs < 2 ^ 233 → Okb b w' → Q (.sh (.int i)) w') : Ran (D_law_number [.draw] w) Q := by
  have p18 : powI 10 18 = some (.sh (.int (10 ^ 18))) := pow10 18 (by decide)
  have p40 : powI 10 40 = some (.sh (.int (10 ^ 40))) := pow10 40 (by decide)
  have p30 : powI 10 30 = some (.sh (.int (10 ^ 30))) := pow10 30 (by decide)
  obtain ⟨V, hV⟩ : ∃ V : FD.Env → W → Prop, ∀ ρ u, V ρ u ↔ ∃ n : Int, ρ = [some (.val .draw), some (.val (.int n)), none] ∧ 0 < n ∧ n.natAbs < 2 ^ 133 ∧ Okb (b + 3) u := ⟨_, fun _ _ => Iff.rfl⟩
  obtain ⟨U, hU⟩ : ∃ U : FD.Env → W → Prop, ∀ ρ u, U ρ u ↔ ∃ n i : Int, ρ = [some (.val .draw), some (.val (.int n)), some (.val (.int i))] ∧ i.natAbs < 2 ^ 233 ∧ Okb (b + 1) u := ⟨_, fun _ _ => Iff.rfl⟩
  refine D_run ?_
  unfold d_law_number
  refine R_then V ?_ ?_
  · simp [startE, R_var, R_lift2g, peek, intD, p18, p40]
    refine R_pick h (by simp) (by simp) fun d w1 hd h1 => ?_
    simp at hd
    rcases hd with rfl | rfl | rfl | rfl | rfl <;> simp <;> exact (hV _ _).mpr ⟨_, rfl, by decide, by decide, h1⟩
  intro ρ1 w1 hv
  obtain ⟨n, rfl, n0, n1, h1⟩ := (hV _ _).mp hv
  refine R_then U ?_ ?_
  · have n2 : n < 2 ^ 1000 := by
      have : (n.natAbs : Int) = n := by omega
      have h2 : n.natAbs < 2 ^ 1000 := Nat.lt_of_lt_of_le n1 (by decide)
      omega
    simp [R_var]
    refine R_takeB h1 n0 n2 fun k w2 k0 k1 h2 => ?_
    have kb : k.natAbs < 2 ^ 133 := by omega
    simp [R_var, R_lift2g, peek, intD, p30]
    refine R_pick h2 (by simp) (by simp) fun d w3 hd h3 => ?_
    obtain ⟨m, rfl, mb⟩ : ∃ m : Int, d = .int m ∧ m.natAbs < 2 ^ 100 := by
      simp at hd
      rcases hd with rfl | rfl | rfl | rfl | rfl <;> exact ⟨_, rfl, by decide⟩
    have e := mulD_bits kb mb (by decide)
    simp [e]
    exact (hU _ _).mpr ⟨n, k * m, rfl, bits_mul kb mb, h3⟩
  intro ρ2 w2 hu
  obtain ⟨n, i, rfl, ib, h2⟩ := (hU _ _).mp hu
  simp [R_var]
  refine R_take h2 (by decide) (by decide) fun k w3 k0 k1 h3 => ?_
  simp [eqD_int]
  by_cases hk : k = 0
  · simp [hk, R_var, outR]
    exact q _ _ ib h3
  · simp [hk, R_var, R_lift2g, peek, intD, i0, outR]
    exact q _ _ (by simpa using ib) h3
end KL

end sec_K02n
section sec_RP
set_option maxRecDepth 100000
set_option maxHeartbeats 5000000
/-! RP: repr of plain data is a text that equals itself. -/
namespace FD
open PySem L2
local instance trp : Tabl := { T := [] }
def Cps (s : Str) : Prop := ∀ c ∈ s.cps.toList, c < 0x110000
theorem char_lt (a : Char) : a.toNat < 0x110000 := by
  rcases a.valid with h | h
  · show a.val.toNat < _
    omega
  · show a.val.toNat < _
    omega
theorem cps_of (x : String) : Cps (Str.ofString x) := fun c hc => by
  rw [Str.ofString_eq_toList] at hc
  simp at hc
  obtain ⟨a, _, rfl⟩ := hc
  exact char_lt a
theorem Cps.app {a b : Str} (ha : Cps a) (hb : Cps b) : Cps (a ++ b) := fun c hc => by
  have hc : c ∈ (a.cps ++ b.cps).toList := hc
  rw [Array.toList_append] at hc
  rcases List.mem_append.mp hc with z | z
  · exact ha c z
  · exact hb c z
theorem cps_from : ∀ (ts : List Str) (k : Nat) (acc : Str), Cps acc → (∀ t ∈ ts, Cps t) → Cps (textFrom k acc ts)
  | [], _, _, h, _ => h
  | t :: ts, k, acc, h, ht => cps_from ts (k + 1) _ ((h.app (cps_of _)).app (ht t List.mem_cons_self)) fun t' h' => ht t' (List.mem_cons_of_mem _ h')
theorem cps_join : ∀ ts : List Str, (∀ t ∈ ts, Cps t) → Cps (Str.join ", " ts)
  | [], _ => fun c hc => nomatch (show c ∈ ([] : List Nat) from hc)
  | [x], h => h x List.mem_cons_self
  | x :: y :: r, h => ((h x List.mem_cons_self).app (cps_of ", ")).app (cps_join (y :: r) fun t ht => h t (List.mem_cons_of_mem _ ht))
theorem cps_reprChar {q c z : Nat} (hc : c < 0x110000) (hz : z ∈ Builtin.Str.reprChar q c) : z < 0x110000 := by
  have hx : ∀ n, z ∈ (let d := (Nat.toDigits 16 c).map Char.toNat; List.replicate (n - d.length) 48 ++ d) → z < 0x110000 := fun n h => by
    rcases List.mem_append.mp h with h | h
    · rw [List.eq_of_mem_replicate h]
      omega
    · obtain ⟨a, _, rfl⟩ := List.mem_map.mp h
      exact char_lt a
  unfold Builtin.Str.reprChar at hz
  dsimp only at hz
  split at hz
  · simp at hz
    omega
  · split at hz
    · simp at hz
      omega
    · split at hz
      · simp at hz
        omega
      · split at hz
        · simp at hz
          omega
        · split at hz
          · simp at hz
            omega
          · split at hz
            · rcases List.mem_append.mp hz with h | h
              · simp at h
                omega
              · exact hx 2 h
            · split at hz
              · rcases List.mem_append.mp hz with h | h
                · simp at h
                  omega
                · exact hx 4 h
              · rcases List.mem_append.mp hz with h | h
                · simp at h
                  omega
                · exact hx 8 h
theorem cps_fold {q : Nat} : ∀ (l : List Nat) (acc : Array Nat), (∀ c ∈ acc.toList, c < 0x110000) → (∀ c ∈ l, c < 0x110000) → ∀ c ∈ (l.foldl (fun out c => out ++ (Builtin.Str.reprChar q c).toArray) acc).toList, c < 0x110000
  | [], _, h, _ => h
  | a :: l, acc, h, hl => cps_fold l _ (fun c hc => by
      simp at hc
      rcases hc with z | z
      · exact h c (by simpa using z)
      · exact cps_reprChar (hl a List.mem_cons_self) z) fun c hc => hl c (List.mem_cons_of_mem _ hc)
theorem cps_text {x : Str} (h : Cps x) : Cps (reprText x) := by
  have hq : reprQuote x < 0x110000 := by
    unfold reprQuote
    split <;> omega
  intro c hc
  have hc : c ∈ ((x.cps.foldl (fun out c => out ++ (Builtin.Str.reprChar (reprQuote x) c).toArray) #[reprQuote x]).push (reprQuote x)).toList := hc
  rw [Array.toList_push, ← Array.foldl_toList] at hc
  rcases List.mem_append.mp hc with z | z
  · exact cps_fold _ _ (fun c h => by
      simp at h
      omega) h c z
  · simp at z
    omega
mutual
theorem cps_shown : ∀ p : PyData, p.canLay0 = true → Cps p.shown
  | .none, _ => cps_of _
  | .bool b, _ => by cases b <;> exact cps_of _
  | .int i, _ => cps_of _
  | .str x, h => cps_text fun c hc => by
      have h : PyData.strOk x = true := h
      simp only [PyData.strOk, Array.all_eq_true', decide_eq_true_eq] at h
      exact h c (by simpa using hc)
  | .list xs, h => (cps_from _ 0 _ (cps_of _) (cps_shownAll xs h)).app (cps_of _)
  | .tuple xs, h => ((cps_of "(").app (cps_join _ (cps_shownAll xs h))).app (cps_of _)
  | .dict kvs, h => by cases h
theorem cps_shownAll : ∀ xs : List PyData, PyData.canLayAll0 xs = true → ∀ t ∈ PyData.shownAll xs, Cps t
  | [], _, t, ht => nomatch ht
  | x :: xs, h, t, ht => by
    obtain ⟨h1, h2⟩ := Bool.and_eq_true_iff.mp (show (PyData.canLay0 x && PyData.canLayAll0 xs) = true from h)
    rcases List.mem_cons.mp ht with rfl | z
    · exact cps_shown x h1
    · exact cps_shownAll xs h2 t z
end
/-- plain data, at most so deep and so heavy -/
def Pl (n w : Nat) (d : D) : Prop := ∃ p, toPy d = some p ∧ p.canLay0 = true ∧ p.showable = true ∧ p.hasDict = false ∧ p.depth ≤ n ∧ p.leavesShort 13 = true ∧ p.weight ≤ w
theorem Pl.mono {n m v w : Nat} {d : D} (h : Pl n v d) (h1 : n ≤ m) (h2 : v ≤ w) : Pl m w d := by
  obtain ⟨p, a1, a2, a3, a4, a5, a6, a7⟩ := h
  exact ⟨p, a1, a2, a3, a4, by omega, a6, by omega⟩
theorem Pl_str {x : Str} (h : Cps x) : Pl 0 x.cps.size (.str x) := by
  refine ⟨.str x, by simp [toPy], ?_, rfl, rfl, by simp [PyData.depth], ?_, by simp [PyData.weight]⟩
  · simp only [PyData.canLay0, PyData.strOk, Array.all_eq_true', decide_eq_true_eq]
    intro c hc
    exact h c (by simpa using hc)
  · simp only [PyData.leavesShort, List.all_eq_true, decide_eq_true_eq]
    intro c hc
    have := h c hc
    omega
end FD

end sec_RP
section sec_RP2
set_option maxRecDepth 100000
set_option maxHeartbeats 5000000
/-! RP2: plain data with numbers of more figures; their repr is a text that equals itself. -/
namespace FD
open PySem L2
local instance trp2 : Tabl := { T := [] }
/-- plain data: numbers with less than B figures, at most n deep, w heavy -/
def PlB (B n w : Nat) (d : D) : Prop := ∃ p, toPy d = some p ∧ p.canLay0 = true ∧ p.showable = true ∧ p.hasDict = false ∧ p.depth ≤ n ∧ p.leavesShort B = true ∧ p.weight ≤ w
theorem PlB.mono {B n m v w : Nat} {d : D} (h : PlB B n v d) (h1 : n ≤ m) (h2 : v ≤ w) : PlB B m w d := by
  obtain ⟨p, a1, a2, a3, a4, a5, a6, a7⟩ := h
  exact ⟨p, a1, a2, a3, a4, by omega, a6, by omega⟩
theorem PlB_str {B : Nat} {x : Str} (h : Cps x) : PlB B 0 x.cps.size (.str x) := by
  obtain ⟨p, a1, a2, a3, a4, a5, a6, a7⟩ := Pl_str h
  simp [toPy] at a1
  subst a1
  exact ⟨_, by simp [toPy], a2, a3, a4, a5, a6, a7⟩
theorem neD_cps {s : Str} (c : Cps s) : neD (.str s) (.str s) = some (.sh (.bl false)) := by
  rw [neD_NB (a := .str s) (b := .str s) c c]
  simp
theorem eqD_cps {s : Str} (c : Cps s) : eqD (.str s) (.str s) = some (.sh (.bl true)) := by
  rw [eqD_NB (a := .str s) (b := .str s) c c]
  simp
end FD

end sec_RP2
section sec_SH
set_option maxRecDepth 100000
set_option maxHeartbeats 1000000
/-! SH: data whose repr can be asked for, small dicts in it too. -/
namespace FD
open PySem L2
local instance tsh : Tabl := { T := [] }
/-- at most n deep, at most m signs -/
def Sh (n m : Nat) (d : D) : Prop := ∃ p, toPyK d = some p ∧ p.showable = true ∧ p.depth ≤ n ∧ p.shown.length ≤ m ∧ Cps p.shown
theorem Sh.mono {n m n' m' : Nat} {d : D} (h : Sh n m d) (h1 : n ≤ n') (h2 : m ≤ m') : Sh n' m' d := by
  obtain ⟨p, a1, a2, a3, a4, a5⟩ := h
  exact ⟨p, a1, a2, by omega, by omega, a5⟩
def shB (n m : Nat) (d : D) : Bool := match toPyK d with
  | some p => p.showable && decide (p.depth ≤ n) && decide (p.shown.length ≤ m) && p.shown.cps.toList.all fun c => decide (c < 0x110000)
  | none => false
theorem Sh_of {n m : Nat} {d : D} (h : shB n m d = true) : Sh n m d := by
  unfold shB at h
  split at h
  · rename_i p e
    simp only [Bool.and_eq_true, decide_eq_true_eq, List.all_eq_true] at h
    exact ⟨p, e, h.1.1.1, h.1.1.2, h.1.2, h.2⟩
  · cases h
theorem Sh_int {i : Int} (h : i.natAbs < 2 ^ 1910) : Sh 0 600 (.int i) := by
  have h10 : i.natAbs < 10 ^ 580 := Nat.lt_of_lt_of_le h (by decide)
  have hl : i.natAbs.log2 < 1920 := by
    by_cases z : i.natAbs = 0
    · rw [z]
      decide
    · have := (Nat.log2_lt z).mpr h
      omega
  refine ⟨.int i, by simp [toPyK], by simpa [PyData.showable] using hl, by simp [PyData.depth], ?_, cps_of _⟩
  have e := int_text_length_le10 (by decide) h10
  show (Str.ofString (toString i)).length ≤ 600
  rw [ofString_length]
  omega
theorem Sh_non : Sh 0 10 .non := Sh_of (by decide +kernel)
theorem Sh_bl {b : Bool} : Sh 0 10 (.bl b) := by cases b <;> exact Sh_of (by decide +kernel)
theorem Sh_all {n m : Nat} : ∀ {ds : List D}, (∀ d ∈ ds, Sh n m d) → ∃ ps, toPysK ds = some ps ∧ PyData.showableAll ps = true ∧ PyData.depthAll ps ≤ n ∧ ((PyData.shownAll ps).map (·.length)).sum ≤ ds.length * m ∧ (∀ t ∈ PyData.shownAll ps, Cps t) ∧ (PyData.shownAll ps).length = ds.length
  | [], _ => ⟨[], rfl, rfl, by simp [PyData.depthAll], by simp [PyData.shownAll], fun t h => by simp [PyData.shownAll] at h, rfl⟩
  | d :: ds, h => by
    obtain ⟨p, a1, a2, a3, a4, a5⟩ := h d List.mem_cons_self
    obtain ⟨ps, b1, b2, b3, b4, b5, b6⟩ := Sh_all (ds := ds) fun d' h' => h d' (List.mem_cons_of_mem _ h')
    refine ⟨p :: ps, by simp [toPysK, a1, b1], by simp [PyData.showableAll, a2, b2], ?_, ?_, ?_, ?_⟩
    · simp only [PyData.depthAll]
      omega
    · simp only [PyData.shownAll, List.map_cons, List.sum_cons, List.length_cons]
      rw [Nat.add_mul]
      omega
    · intro t ht
      simp only [PyData.shownAll] at ht
      rcases List.mem_cons.mp ht with rfl | z
      · exact a5
      · exact b5 t z
    · simp [PyData.shownAll, b6]
theorem Sh_tup {n m : Nat} {ds : List D} (h : ∀ d ∈ ds, Sh n m d) : Sh (n + 1) (ds.length * m + 2 * ds.length + 3) (.tup ds) := by
  obtain ⟨ps, b1, b2, b3, b4, b5, b6⟩ := Sh_all h
  refine ⟨.tuple ps, by simp [toPyK, b1], by simpa [PyData.showable] using b2, by simp [PyData.depth]; omega, ?_, ?_⟩
  · have := tupleText_len_le (PyData.shownAll ps)
    simp only [PyData.shown]
    omega
  · simp only [PyData.shown]
    exact ((cps_of "(").app (cps_join _ b5)).app (cps_of _)
theorem Sh_lst {n m : Nat} {ds : List D} (h : ∀ d ∈ ds, Sh n m d) : Sh (n + 1) (ds.length * m + 2 * ds.length + 3) (.lst ds) := by
  obtain ⟨ps, b1, b2, b3, b4, b5, b6⟩ := Sh_all h
  refine ⟨.list ps, by simp [toPyK, b1], by simpa [PyData.showable] using b2, by simp [PyData.depth]; omega, ?_, ?_⟩
  · have := listText_len_le (PyData.shownAll ps)
    simp only [PyData.shown]
    omega
  · simp only [PyData.shown]
    exact (cps_from _ 0 _ (cps_of _) b5).app (cps_of _)
/-- repr gives a text that equals itself -/
theorem rep_Sh {d : D} (h : Sh 60 1000000 d) (hd : (∃ ds, d = .lst ds) ∨ ∃ ds, d = .tup ds) : ∃ s : Str, orN reprS reprQ [d] = some (.sh (.str s)) ∧ neD (.str s) (.str s) = some (.sh (.bl false)) ∧ eqD (.str s) (.str s) = some (.sh (.bl true)) := by
  obtain ⟨p, a1, a2, a3, a4, a5⟩ := h
  refine ⟨p.shown, ?_, neD_cps a5, eqD_cps a5⟩
  rcases hd with ⟨ds, rfl⟩ | ⟨ds, rfl⟩ <;> simp [orN, reprS, reprQ, shwDK, a1, a2, a3, a4]
end FD

end sec_SH
section sec_K02f
set_option maxRecDepth 100000
set_option maxHeartbeats 1000000
/-! K02f: sums and products of fractions. -/
namespace KL
open PySem L2 FD
local instance tk02f : Tabl := { T := [] }
variable {w : W}
def plusF (x y : Int × Nat) : Int × Nat := red (x.1 * y.2 + y.1 * x.2) (x.2 * y.2)
def timesF (x y : Int × Nat) : Int × Nat := red (x.1 * y.1) (x.2 * y.2)
theorem bits_add {i j : Int} {n : Nat} (h1 : i.natAbs < 2 ^ n) (h2 : j.natAbs < 2 ^ n) : (i + j).natAbs < 2 ^ (n + 1) := by
  have := Int.natAbs_add_le i j
  rw [Nat.pow_succ]
  omega
/-- no number of more than 2000 bits -/
structure Bt (x : Int × Nat) : Prop where
  p : 0 < x.2
  t : x.1.natAbs < 2 ^ 2000
  b : x.2 < 2 ^ 2000
theorem nB {n m : Nat} (h : n < 2 ^ m) : (n : Int).natAbs < 2 ^ m := by simpa using h
section
variable {x y : Int × Nat}
theorem pl_facts (hx : Bt x) (hy : Bt y) : mulD (.int x.1) (.int (y.2 : Int)) = some (.sh (.int (x.1 * y.2))) ∧ mulD (.int y.1) (.int (x.2 : Int)) = some (.sh (.int (y.1 * x.2))) ∧ mulD (.int (x.2 : Int)) (.int (y.2 : Int)) = some (.sh (.int ((x.2 : Int) * (y.2 : Int)))) ∧ (x.1 * y.2 + y.1 * x.2).natAbs < 2 ^ 4001 ∧ x.2 * y.2 < 2 ^ 4000 :=
  ⟨mulD_bits hx.t (nB hy.b) (by decide), mulD_bits hy.t (nB hx.b) (by decide), mulD_bits (nB hx.b) (nB hy.b) (by decide), bits_add (bits_mul hx.t (nB hy.b)) (bits_mul hy.t (nB hx.b)), nbits_mul hx.b hy.b⟩
theorem plus_eq (hx : Bt x) (hy : Bt y) : D_plus [frD x, frD y] w = some (.sh (frD (plusF x y)), w) := by
  obtain ⟨m1, m2, m3, b1, b2⟩ := pl_facts hx hy
  have c1 := fun w => divided_eq (w := w) (Nat.mul_pos hx.p hy.p) (pow_mono' (m := 400000) (by decide) b1) (pow_mono' (m := 8000) (by decide) b2)
  simp only [Int.natCast_mul] at c1
  refine D_eq ?_
  simp [d_plus, startE, R_var, R_lift2g, peek, frD_0, frD_1, m1, m2, m3, addD, c1, outR, plusF]
theorem law_plus_eq (hx : Bt x) (hy : Bt y) : D_law_plus [frD x, frD y] w = some (.sh (frD (plusF x y)), w) := by
  obtain ⟨m1, m2, m3, b1, b2⟩ := pl_facts hx hy
  have c1 := fun w => law_divided_eq (w := w) (Nat.mul_pos hx.p hy.p) (pow_mono' (m := 400000) (by decide) b1) (pow_mono' (m := 8000) (by decide) b2)
  simp only [Int.natCast_mul] at c1
  refine D_eq ?_
  simp [d_law_plus, startE, R_var, R_lift2g, peek, frD_0, frD_1, m1, m2, m3, addD, c1, outR, plusF]
theorem times_eq (hx : Bt x) (hy : Bt y) : D_times [frD x, frD y] w = some (.sh (frD (timesF x y)), w) := by
  have m1 := mulD_bits hx.t hy.t (by decide)
  have m3 := mulD_bits (nB hx.b) (nB hy.b) (by decide)
  have c1 := fun w => divided_eq (w := w) (Nat.mul_pos hx.p hy.p) (pow_mono' (m := 400000) (by decide) (bits_mul hx.t hy.t)) (pow_mono' (m := 8000) (by decide) (nbits_mul hx.b hy.b))
  simp only [Int.natCast_mul] at c1
  refine D_eq ?_
  simp [d_times, startE, R_var, R_lift2g, peek, frD_0, frD_1, m1, m3, c1, outR, timesF]
theorem law_times_eq (hx : Bt x) (hy : Bt y) : D_law_by [frD x, frD y] w = some (.sh (frD (timesF x y)), w) :=
  law_by_eq hx.p hy.p hx.t hy.t hx.b hy.b (by decide) (by decide)
end
theorem red_le {a : Int} {b : Nat} (h : 0 < b) : (red a b).1.natAbs ≤ a.natAbs ∧ (red a b).2 ≤ b := by
  have g := gcd_pos (a := a) h
  obtain ⟨m1, m2⟩ := red_mul (a := a) h
  constructor
  · have := congrArg Int.natAbs m1
    rw [Int.natAbs_mul] at this
    rw [this]
    exact Nat.le_mul_of_pos_right _ (by simpa using g)
  · exact Nat.div_le_self _ _
/-- numbers as drawn ones have them -/
structure FrB (x : Int × Nat) : Prop where
  p : 0 < x.2
  t : x.1.natAbs ≤ 2 ^ 234
  b : x.2 ≤ 2 ^ 234
/-- after k steps -/
structure FrK (k : Nat) (x : Int × Nat) : Prop where
  p : 0 < x.2
  t : x.1.natAbs ≤ 2 ^ (235 * k)
  b : x.2 ≤ 2 ^ (234 * k)
theorem FrB.bt {x : Int × Nat} (h : FrB x) : Bt x := ⟨h.p, Nat.lt_of_le_of_lt h.t (by decide), Nat.lt_of_le_of_lt h.b (by decide)⟩
theorem p2 {a b : Nat} (h : a ≤ b) : 2 ^ a ≤ 2 ^ b := Nat.pow_le_pow_right (by decide) h
theorem FrK.bt {k : Nat} {x : Int × Nat} (h : FrK k x) (hk : k ≤ 8) : Bt x :=
  ⟨h.p, Nat.lt_of_le_of_lt (Nat.le_trans h.t (p2 (b := 1880) (by omega))) (by decide), Nat.lt_of_le_of_lt (Nat.le_trans h.b (p2 (b := 1880) (by omega))) (by decide)⟩
theorem FrK.plus {k : Nat} {x y : Int × Nat} (h : FrK k x) (h2 : FrB y) : FrK (k + 1) (plusF x y) := by
  have hp := Nat.mul_pos h.p h2.p
  obtain ⟨l1, l2⟩ := red_le (a := x.1 * y.2 + y.1 * x.2) hp
  refine ⟨red_snd hp, Nat.le_trans l1 ?_, Nat.le_trans l2 ?_⟩
  · refine Nat.le_trans (Int.natAbs_add_le _ _) ?_
    rw [Int.natAbs_mul, Int.natAbs_mul]
    have a1 : x.1.natAbs * (y.2 : Int).natAbs ≤ 2 ^ (235 * k) * 2 ^ 234 := Nat.mul_le_mul h.t (by simpa using h2.b)
    have a2 : y.1.natAbs * (x.2 : Int).natAbs ≤ 2 ^ 234 * 2 ^ (234 * k) := Nat.mul_le_mul h2.t (by simpa using h.b)
    rw [← Nat.pow_add] at a1 a2
    have a3 : 2 ^ (234 + 234 * k) ≤ 2 ^ (235 * k + 234) := p2 (by omega)
    have a4 : 2 ^ (235 * (k + 1)) = 2 * 2 ^ (235 * k + 234) := by
      rw [show 235 * (k + 1) = (235 * k + 234) + 1 by omega, Nat.pow_succ]
      omega
    omega
  · have := Nat.mul_le_mul h.b h2.b
    rw [← Nat.pow_add] at this
    rwa [show 234 * (k + 1) = 234 * k + 234 by omega]
theorem FrK.times {k : Nat} {x y : Int × Nat} (h : FrK k x) (h2 : FrB y) : FrK (k + 1) (timesF x y) := by
  have hp := Nat.mul_pos h.p h2.p
  obtain ⟨l1, l2⟩ := red_le (a := x.1 * y.1) hp
  refine ⟨red_snd hp, Nat.le_trans l1 ?_, Nat.le_trans l2 ?_⟩
  · rw [Int.natAbs_mul]
    have := Nat.mul_le_mul h.t h2.t
    rw [← Nat.pow_add] at this
    exact Nat.le_trans this (p2 (by omega))
  · have := Nat.mul_le_mul h.b h2.b
    rw [← Nat.pow_add] at this
    rwa [show 234 * (k + 1) = 234 * k + 234 by omega]
theorem foldP : ∀ (xs : List (Int × Nat)) (k : Nat) (x : Int × Nat), FrK k x → (∀ y ∈ xs, FrB y) → FrK (k + xs.length) (xs.foldl plusF x)
  | [], _, _, h, _ => h
  | y :: ys, k, x, h, hy => by
    have := foldP ys (k + 1) _ (h.plus (hy y List.mem_cons_self)) fun z hz => hy z (List.mem_cons_of_mem _ hz)
    rwa [show k + (y :: ys).length = k + 1 + ys.length by simp; omega]
theorem foldT : ∀ (xs : List (Int × Nat)) (k : Nat) (x : Int × Nat), FrK k x → (∀ y ∈ xs, FrB y) → FrK (k + xs.length) (xs.foldl timesF x)
  | [], _, _, h, _ => h
  | y :: ys, k, x, h, hy => by
    have := foldT ys (k + 1) _ (h.times (hy y List.mem_cons_self)) fun z hz => hy z (List.mem_cons_of_mem _ hz)
    rwa [show k + (y :: ys).length = k + 1 + ys.length by simp; omega]
def zeroF : Int × Nat := (0, 1)
def oneF : Int × Nat := (1, 1)
def sumF (xs : List (Int × Nat)) : Int × Nat := xs.foldl plusF zeroF
def prodF (xs : List (Int × Nat)) : Int × Nat := xs.foldl timesF oneF
theorem zeroK : FrK 0 zeroF := ⟨by decide, by decide, by decide⟩
theorem oneK : FrK 0 oneF := ⟨by decide, by decide, by decide⟩
/-- numbers as sums have them -/
theorem sh_fr {k : Nat} {x : Int × Nat} (h : FrK k x) (hk : k ≤ 8) : Sh 1 1300 (frD x) := by
  have t : x.1.natAbs < 2 ^ 1910 := Nat.lt_of_le_of_lt (Nat.le_trans h.t (p2 (b := 1880) (by omega))) (by decide)
  have b : (x.2 : Int).natAbs < 2 ^ 1910 := Nat.lt_of_le_of_lt (Nat.le_trans (by simpa using h.b) (p2 (b := 1880) (by omega))) (by decide)
  refine (Sh_tup (n := 0) (m := 600) fun d hd => ?_).mono (by omega) (by simp)
  simp at hd
  rcases hd with rfl | rfl
  · exact Sh_int t
  · exact Sh_int b
end KL

end sec_K02f
section sec_P7
set_option maxRecDepth 100000
set_option maxHeartbeats 5000000
/-! P7: equal schemes. -/
namespace KL
open PySem L2 FD
open ST (Up up_eq setN mem_setN up_setN)
local instance tl8 : Tabl := { T := [] }
end KL

end sec_P7
section sec_X0
set_option maxRecDepth 100000
set_option maxHeartbeats 5000000
/-! X0: runs that come to nothing. -/
namespace FD
open PySem L2
local instance tx0a : Tabl := { T := [] }
section
variable {g : D → M Unit} {body : M Fl} {xb : M Xn} {x : D} {rest : List D}
theorem N_forL (I : List D → Env → W → Prop) (step : ∀ d l ρ w, I (d :: l) ρ w → R (g d) ρ w fun _ ρ1 w1 => xb ρ1 w1 = none ∧ R body ρ1 w1 fun fl ρ2 w2 => fl = .nx ∧ I l ρ2 w2) (last : ∀ ρ w, I [] ρ w → R (g x) ρ w fun _ ρ1 w1 => body ρ1 w1 = none) :
    ∀ (pre : List D) (ρ : Env) (w : W), I pre ρ w → forL g body (pre ++ x :: rest) ρ w = none
  | [], ρ, w, h => by
    obtain ⟨_, ρ1, w1, e1, e2⟩ := last ρ w h
    simp [forL, bindM, e1, e2]
  | d :: l, ρ, w, h => by
    obtain ⟨_, ρ1, w1, e1, _, fl, ρ2, w2, e2, rfl, h2⟩ := step d l ρ w h
    have := N_forL I step last l ρ2 w2 h2
    simp [forL, bindM, e1, e2, this]
theorem R_forXL {Q : Xn → Env → W → Prop} (I : List D → Env → W → Prop) (step : ∀ d l ρ w, I (d :: l) ρ w → R (g d) ρ w fun _ ρ1 w1 => xb ρ1 w1 = none ∧ R body ρ1 w1 fun fl ρ2 w2 => fl = .nx ∧ I l ρ2 w2) (last : ∀ ρ w, I [] ρ w → R (g x) ρ w fun _ ρ1 w1 => R xb ρ1 w1 Q) :
    ∀ (pre : List D) (ρ : Env) (w : W), I pre ρ w → R (forXL g body xb (pre ++ x :: rest)) ρ w Q
  | [], ρ, w, h => by
    obtain ⟨_, ρ1, w1, e1, y, ρ2, w2, e2, q⟩ := last ρ w h
    exact ⟨y, ρ2, w2, by simp [forXL, bindM, alt, e1, e2], q⟩
  | d :: l, ρ, w, h => by
    obtain ⟨_, ρ1, w1, e1, n, fl, ρ2, w2, e2, rfl, h2⟩ := step d l ρ w h
    obtain ⟨y, ρ3, w3, e3, q⟩ := R_forXL I step last l ρ2 w2 h2
    exact ⟨y, ρ3, w3, by simp [forXL, bindM, alt, e1, n, e2, e3], q⟩
end
section
variable {ρ : Env} {w : W} {fa : M (List RV)} {fo : M RV} {dd : List D}
theorem N_call {den : List D → W → Option (RV × W)} (h : R fa ρ w fun rs ρ1 w1 => R (escAll rs) ρ1 w1 fun ds _ w2 => den (ds ++ dd) w2 = none) : callM den dd fa ρ w = none := N_bind (h.mono fun _ _ _ h => N_bind (h.mono fun _ _ _ h => N_run h))
/-- isinstance of a slot that holds a caught error -/
theorem R_isx {bt : String → Bool} {ic xi : List (Str × Bool)} {i : Nat} {cn : Str} {gs : List (Str × D)} {b : Bool} {Q : RV → Env → W → Prop} (h : ρ[i]? = some (some (.val (.exc cn gs)))) (hb : xi.lookup cn = some b) (q : Q (.sh (.bl b)) ρ w) : R (alt (isiM bt ic (varM i)) (op1M (isxD xi) (varM i))) ρ w Q := by
  have v : varM i ρ w = some (.sh (.exc cn gs), ρ, w) := by simp [varM, h]
  refine R_alt2 ?_ ⟨_, _, _, ?_, q⟩
  · simp [isiM, op1M, bindM, v, lift1, peek, isiD, tyB]
  · simp [op1M, bindM, v, lift1, peek, isxD, hb]
end
end FD

end sec_X0
section sec_WM0
set_option maxRecDepth 100000
set_option maxHeartbeats 5000000
/-! WM0: small facts of schemes and caught errors. -/
namespace KL
open PySem L2 FD
local instance tw0 : Tabl := { T := [] }
theorem R_isxI {ρ : FD.Env} {w : W} {bt : String → Bool} {ic xi : List (Str × Bool)} {i : Nat} {cn : Str} {gs : List (Str × D)} {b : Bool} {Q : RV → FD.Env → W → Prop} (h : ρ[i]? = some (some (.val (.exc cn gs)))) (hb : xi.lookup cn = some b) : R (alt (isiM bt ic (varM i)) (op1M (isxD xi) (varM i))) ρ w Q ↔ Q (.sh (.bl b)) ρ w := by
  constructor
  · rintro ⟨a, ρ', w', e, q⟩
    obtain ⟨a2, ρ2, w2, e2, rfl, rfl, rfl⟩ := R_isx (bt := bt) (ic := ic) (Q := fun a ρ'' w'' => a = .sh (.bl b) ∧ ρ'' = ρ ∧ w'' = w) (w := w) h hb ⟨rfl, rfl, rfl⟩
    rw [e] at e2
    cases e2
    exact q
  · exact R_isx h hb
end KL

end sec_WM0
section sec_K02a
set_option maxRecDepth 100000
set_option maxHeartbeats 400000
/-! K02a: what the law tells of a call. -/
namespace KL
open PySem L2 FD
local instance tk02a : Tabl := { T := [] }
section
variable {n : Nat} {ds : List D} {w w' : W}
theorem told_ok {d : D} (hl : lfs ds = true) (h : tabL n ds w = some (.sh d, w')) : D_law_told [.lam n ds] w = some (.sh (.tup [d]), w') := by
  refine D_eq ?_
  unfold d_law_told
  refine R_then (fun ρ v => w = v ∧ ρ = [some (.val (.lam n ds)), some (.val .non), some (.val .non), none]) ?_ ?_
  · simp [startE]
  rintro _ _ ⟨rfl, rfl⟩
  refine R_then (fun ρ u => u = w' ∧ ρ = [some (.val (.lam n ds)), some (.val .non), some (.val d), none]) ?_ ?_
  · refine R_try1 ?_
    have a : ∀ (Q : RV → FD.Env → W → Prop), R (actM tabL 0) [some (.val (.lam n ds)), some (.val .non), some (.val .non), none] w Q ↔ Q (.sh d) [some (.val (.lam n ds)), some (.val .non), some (.val .non), none] w' := fun Q => by
      rw [R_act (n := n) (ds := ds) rfl hl, h]
      simp
    simp [a]
  rintro _ _ ⟨rfl, rfl⟩
  simp [R_var, isNonD, outR]
theorem told_bad {d : D} (hl : lfs ds = true) (hn : tabL n ds w = none) (h : tabX n ds w = some (⟨"BadNumber", [("number", d)]⟩, w')) : D_law_told [.lam n ds] w = some (.fr (.lst [d]), w') := by
  have hc : xs_MeanError.contains ("BadNumber" : Str) = true := by decide +kernel
  have c1 : xi_BadNumber.lookup ("BadNumber" : Str) = some true := by decide +kernel
  have c2 : xi_NoTable.lookup ("BadNumber" : Str) = some false := by decide +kernel
  have c3 : xf_number.contains ("BadNumber" : Str) = true := by decide +kernel
  refine D_eq ?_
  unfold d_law_told
  refine R_then (fun ρ v => w = v ∧ ρ = [some (.val (.lam n ds)), some (.val .non), some (.val .non), none]) ?_ ?_
  · simp [startE]
  rintro _ _ ⟨rfl, rfl⟩
  refine R_then (fun ρ u => u = w' ∧ ρ = [some (.val (.lam n ds)), some (.val (.exc "BadNumber" [("number", d)])), some (.val .non), none]) ?_ ?_
  · refine R_try2 (N_bind0 (N_act (n := n) (ds := ds) rfl hl hn)) ?_
    rw [R_actX (n := n) (ds := ds) rfl hl, h]
    simp only [RanX, Ran_some]
    refine ⟨hc, ?_⟩
    simp
  rintro _ _ ⟨rfl, rfl⟩
  have f1 : xfD xf_number "number" (.exc "BadNumber" [("number", d)]) = some (.sh d) := by
    unfold xfD
    dsimp only
    rw [if_pos c3]
    simp
  simp [R_var, isNonD, f1, R_isxI (ρ := [some (.val (.lam n ds)), some (.val (.exc "BadNumber" [("number", d)])), some (.val .non), none]) (i := 1) rfl c1, R_isxI (ρ := [some (.val (.lam n ds)), some (.val (.exc "BadNumber" [("number", d)])), some (.val .non), none]) (i := 1) rfl c2, outR]
end
end KL

end sec_K02a
section sec_K02g
set_option maxRecDepth 100000
set_option maxHeartbeats 1000000
/-! K02g: values near to fractions. -/
namespace KL
open PySem L2 FD
local instance tk02g : Tabl := { T := [] }
def isFr : D → Bool
  | .tup [.int a, .int b] => decide (1 ≤ b) && decide (Int.gcd a b = 1)
  | _ => false
/-- what is told of a value -/
structure NearD (d : D) : Prop where
  isf : ∀ w, D_is_fraction [d] w = some (.sh (.bl (isFr d)), w)
  gd : ∀ w, D_law_is_good [d] w = some (.sh (.bl (isFr d)), w)
  sh : Sh 6 3000 d
  lf : lf d = true
  fr : isFr d = true → ∃ x : Int × Nat, d = frD x ∧ FrB x
theorem is_num {d : D} {T : String} {w : W} (h : tyB d = some T) : D_is_number [d] w = some (.sh (.bl (decide (T = "int"))), w) := by
  have e1 : isiD bt_int ic_int d = some (bt_int T) ∧ isiD bt_bool ic_bool d = some (bt_bool T) := by
    cases d <;> simp [tyB] at h <;> subst h <;> simp [isiD, tyB]
  have e2 : bt_int T = (T == "int" || T == "bool") := rfl
  have e3 : bt_bool T = (T == "bool") := rfl
  refine D_eq ?_
  by_cases h1 : T = "int"
  · subst h1
    have q1 : bt_int "int" = true := by decide +kernel
    have q2 : bt_bool "int" = false := by decide +kernel
    rw [q1, q2] at e1
    simp [d_is_number, startE, R_var, e1.1, e1.2, outR]
  · by_cases h2 : T = "bool"
    · subst h2
      have q1 : bt_int "bool" = true := by decide +kernel
      have q2 : bt_bool "bool" = true := by decide +kernel
      rw [q1, q2] at e1
      simp [d_is_number, startE, R_var, e1.1, e1.2, outR]
    · have q1 : bt_int T = false := by simp [e2, h1, h2]
      rw [q1] at e1
      simp [d_is_number, startE, R_var, e1.1, h1, outR]
theorem num_int {a : Int} {w : W} : D_is_number [.int a] w = some (.sh (.bl true), w) := is_num (T := "int") rfl
/-- no tuple -/
theorem near_no {d : D} {T : String} (h : tyB d = some T) (hT : T ≠ "tuple") (hi : isFr d = false) (sh : Sh 6 3000 d) (l : lf d = true) : NearD d := by
  have e1 : isiD bt_tuple ic_tuple d = some false := by
    have q : bt_tuple T = false := by simp [bt_tuple, hT]
    cases d <;> simp [tyB] at h <;> subst h <;> simp [isiD, tyB, q] <;> exact q
  refine ⟨fun w => ?_, fun w => ?_, sh, l, fun h => by rw [hi] at h; cases h⟩
  · rw [hi]
    refine D_eq ?_
    simp [d_is_fraction, startE, R_var, e1, outR]
  · rw [hi]
    refine D_eq ?_
    simp [d_law_is_good, startE, R_var, e1, outR]
/-- a tuple of another length -/
theorem near_len {ds : List D} (h : ds.length ≠ 2) (sh : Sh 6 3000 (.tup ds)) (l : lf (.tup ds) = true) : NearD (.tup ds) := by
  have hi : isFr (.tup ds) = false := by
    match ds, h with
    | [], _ => simp [isFr]
    | [_], _ => simp [isFr]
    | [_, _], h => simp at h
    | _ :: _ :: _ :: _, _ => simp [isFr]
  have hn : ¬ ((ds.length : Int) = 2) := by omega
  have e1 : isiD bt_tuple ic_tuple (.tup ds) = some true := by simp [isiD, tyB, bt_tuple]
  refine ⟨fun w => ?_, fun w => ?_, sh, l, fun h => by rw [hi] at h; cases h⟩
  · rw [hi]
    refine D_eq ?_
    simp [d_is_fraction, startE, R_var, e1, R_liftNg, peek, peeks, lenD, neD_int, hn, outR]
  · rw [hi]
    refine D_eq ?_
    simp [d_law_is_good, startE, R_var, e1, R_liftNg, peek, peeks, lenD, neD_int, hn, outR]
theorem iF (i : Int) : intFD [.int i] = some (.sh (.int i)) := rfl
/-- two numbers -/
theorem near_pair {a b : Int} (ha : a.natAbs ≤ 2 ^ 234) (hb : b.natAbs ≤ 2 ^ 234) : NearD (.tup [.int a, .int b]) := by
  have e1 : isiD bt_tuple ic_tuple (.tup [.int a, .int b]) = some true := by simp [isiD, tyB, bt_tuple]
  have i0 : ixD (.tup [.int a, .int b]) (.int 0) = some (.sh (.int a)) := rfl
  have i1 : ixD (.tup [.int a, .int b]) (.int 1) = some (.sh (.int b)) := rfl
  have nn : ∀ i : Int, isiD bt_int ic_int (.int i) = some true ∧ isiD bt_bool ic_bool (.int i) = some false := fun i => ⟨by simp [isiD, tyB, bt_int], by simp [isiD, tyB, bt_bool]⟩
  have b1 : a.natAbs < 2 ^ 400000 := Nat.lt_of_le_of_lt ha (Nat.pow_lt_pow_right (by decide) (by decide))
  refine ⟨fun w => ?_, fun w => ?_, ?_, rfl, fun h => ?_⟩
  · by_cases h1 : 1 ≤ b
    · obtain ⟨n, rfl⟩ := Int.eq_ofNat_of_zero_le (show 0 ≤ b by omega)
      have b2 : n < 2 ^ 400000 := Nat.lt_of_le_of_lt (show n ≤ 2 ^ 234 by omega) (Nat.pow_lt_pow_right (by decide) (by decide))
      have c := fun w => divisor_of_eq (w := w) b1 b2
      refine D_eq ?_
      have h1' : 0 < n := by omega
      simp [d_is_fraction, startE, R_var, e1, R_liftNg, peek, peeks, lenD, neD_int, R_lift2g, i0, i1, num_int, geD, intD, FD.i0, c, eqD_int, isFr, outR, h1']
      rw [Bool.eq_iff_iff]
      simp
      omega
    · refine D_eq ?_
      simp [d_is_fraction, startE, R_var, e1, R_liftNg, peek, peeks, lenD, neD_int, R_lift2g, i0, i1, num_int, geD, intD, FD.i0, isFr, outR, h1]
  · have lc : ∀ (Q : List D → FD.Env → W → Prop), Q [] [some (.val (.tup [.int a, .int b])), none] w → R (lcL [1] (gNameM 1) (orT (notT (boolM (isiM bt_int ic_int (varM 1)))) (boolM (isiM bt_bool ic_bool (varM 1)))) (varM 1) [.int a, .int b]) [some (.val (.tup [.int a, .int b])), none] w Q := fun Q q => by
      refine R_lcL (g := fun _ => none) [.int a, .int b] (fun d hd => ?_) (by simpa using q)
      simp at hd
      rcases hd with rfl | rfl <;> simp [R_var, nn, wipeE]
    have c0 : neD (.lst []) (.lst []) = some (.sh (.bl false)) := by simp [neD, cmpD, toPy, toPys, SeqAt.shaped, PyData.canLay0, PyData.canLayAll0, PyData.depth, PyData.depthAll, PyData.eqv, PyData.eqvAll]
    refine D_eq ?_
    by_cases h1 : 1 ≤ b
    · obtain ⟨n, rfl⟩ := Int.eq_ofNat_of_zero_le (show 0 ≤ b by omega)
      have n0 : 0 < n := by omega
      have c := fun w => law_divided_eq (w := w) (a := a) n0 b1 (Nat.lt_of_le_of_lt (show n ≤ 2 ^ 234 by omega) (Nat.pow_lt_pow_right (by decide) (by decide)))
      have nb : ∀ x : Int × Nat, NB 64 (frD x) := fun x d hd => by
        simp at hd
        rcases hd with rfl | rfl <;> exact NB_int
      have q : eqD (frD (red a n)) (.tup [.int a, .int (n : Int)]) = some (.sh (.bl (isFr (.tup [.int a, .int (n : Int)])))) := by
        rw [eqD_NB (nb _) (nb (a, n))]
        congr 3
        rw [Bool.eq_iff_iff]
        have g0 := gcd_pos (a := a) n0
        have hz : (1 : Int) ≤ n := by omega
        simp only [decide_eq_true_eq, isFr, Bool.and_eq_true, hz, true_and]
        constructor
        · intro e
          simp [red] at e
          have e2 : n / Int.gcd a n = n := by
            have := e.2
            omega
          exact Nat.eq_of_mul_eq_mul_left n0 (by
            have := Nat.div_mul_cancel (show Int.gcd a n ∣ n by simpa using Int.gcd_dvd_natAbs_right a n)
            rw [e2] at this
            omega)
        · intro e
          simp [red, e]
      simp [d_law_is_good, startE, R_var, e1, R_liftNg, peek, peeks, lenD, neD_int, R_lcM, iterD, noOwn, wipeE]
      refine lc _ ?_
      simp [restE, R_lift2g, peek, c0, R_var, i0, i1, geD, intD, FD.i0, n0, c, q, outR]
      exact .inr h1
    · simp [d_law_is_good, startE, R_var, e1, R_liftNg, peek, peeks, lenD, neD_int, R_lcM, iterD, noOwn, wipeE]
      refine lc _ ?_
      simp [restE, R_lift2g, peek, c0, R_var, i0, i1, geD, intD, FD.i0, h1, isFr, outR]
  · refine (Sh_tup (n := 0) (m := 600) fun d hd => ?_).mono (by omega) (by simp)
    simp at hd
    rcases hd with rfl | rfl
    · exact Sh_int (Nat.lt_of_le_of_lt ha (by decide))
    · exact Sh_int (Nat.lt_of_le_of_lt hb (by decide))
  · simp [isFr] at h
    obtain ⟨n, rfl⟩ := Int.eq_ofNat_of_zero_le (show 0 ≤ b by omega)
    exact ⟨(a, n), rfl, ⟨by show 0 < n; omega, ha, by simpa using hb⟩⟩
end KL

end sec_K02g
section sec_K02i
set_option maxRecDepth 100000
set_option maxHeartbeats 1000000
/-! K02i: two values that are no two numbers; what is drawn near a fraction. -/
namespace KL
open PySem L2 FD
local instance tk02i : Tabl := { T := [] }
def PyO (d : D) : Prop := ∃ p, toPy d = some p ∧ p.canLay0 = true ∧ p.depth ≤ 0
theorem ne_nil {rs : List D} (h : rs ≠ []) (hp : ∀ r ∈ rs, PyO r) : neD (.lst rs) (.lst []) = some (.sh (.bl true)) := by
  obtain ⟨ps, e1, e2, e3⟩ := toPys_of (n := 0) hp
  have hne : ps ≠ [] := by
    cases rs with
    | nil => exact absurd rfl h
    | cons r rs =>
      simp only [toPys] at e1
      split at e1
      · cases q : toPys rs with
        | none => rw [q] at e1; cases e1
        | some _ => rw [q] at e1; cases e1; simp
      · cases e1
  have s1 : SeqAt.shaped (.list ps) = true := by
    simp [SeqAt.shaped, PyData.canLay0, PyData.depth, e2]
    omega
  have s2 : SeqAt.shaped (.list []) = true := by decide +kernel
  have ev : PyData.eqv (.list ps) (.list []) = false := by
    cases ps with
    | nil => exact absurd rfl hne
    | cons p ps => simp [PyData.eqv, PyData.eqvAll]
  simp [neD, cmpD, toPy, toPys, e1, s1, s2, ev]
theorem near_mixed {x y : D} {T U : String} (hx : tyB x = some T) (hy : tyB y = some U) (h : T ≠ "int" ∨ U ≠ "int") (px : PyO x) (py : PyO y) (sh : Sh 6 3000 (.tup [x, y])) (l : lf (.tup [x, y]) = true) : NearD (.tup [x, y]) := by
  have e1 : isiD bt_tuple ic_tuple (.tup [x, y]) = some true := by simp [isiD, tyB, bt_tuple]
  have i0 : ixD (.tup [x, y]) (.int 0) = some (.sh x) := rfl
  have i1 : ixD (.tup [x, y]) (.int 1) = some (.sh y) := rfl
  have hi : isFr (.tup [x, y]) = false := by
    cases x <;> simp [tyB] at hx <;> subst hx <;> cases y <;> simp [tyB] at hy <;> subst hy <;> first | rfl | simp at h
  have n1 := fun w => is_num (w := w) hx
  have n2 := fun w => is_num (w := w) hy
  refine ⟨fun w => ?_, fun w => ?_, sh, l, fun h => by rw [hi] at h; cases h⟩
  · rw [hi]
    refine D_eq ?_
    by_cases h1 : T = "int"
    · have h2 : ¬ U = "int" := by
        rcases h with h | h
        · exact absurd h1 h
        · exact h
      simp [d_is_fraction, startE, R_var, e1, R_liftNg, peek, peeks, lenD, neD_int, R_lift2g, i0, i1, n1, n2, h1, h2, outR]
    · simp [d_is_fraction, startE, R_var, e1, R_liftNg, peek, peeks, lenD, neD_int, R_lift2g, i0, i1, n1, h1, outR]
  · rw [hi]
    have gi : ∀ {d : D} {V : String}, tyB d = some V → isiD bt_int ic_int d = some (V == "int" || V == "bool") ∧ isiD bt_bool ic_bool d = some (V == "bool") := fun {d V} h => by
      have e2 : bt_int V = (V == "int" || V == "bool") := rfl
      have e3 : bt_bool V = (V == "bool") := rfl
      cases d <;> simp [tyB] at h <;> subst h <;> simp [isiD, tyB, e2, e3]
    have lc : ∀ (Q : List D → FD.Env → W → Prop), (∀ rs, rs ≠ [] → (∀ r ∈ rs, PyO r) → Q rs [some (.val (.tup [x, y])), none] w) → R (lcL [1] (gNameM 1) (orT (notT (boolM (isiM bt_int ic_int (varM 1)))) (boolM (isiM bt_bool ic_bool (varM 1)))) (varM 1) [x, y]) [some (.val (.tup [x, y])), none] w Q := fun Q q => by
      have turn : ∀ {d : D} {V : String}, tyB d = some V → R (lcTurn (gNameM 1) (orT (notT (boolM (isiM bt_int ic_int (varM 1)))) (boolM (isiM bt_bool ic_bool (varM 1)))) (varM 1) d) [some (.val (.tup [x, y])), none] w fun z ρ' w' => z = (if V = "int" then none else some d) ∧ wipeE ρ' [1] = [some (.val (.tup [x, y])), none] ∧ w' = w := fun {d V} hd => by
        obtain ⟨g1, g2⟩ := gi hd
        by_cases h1 : V = "int"
        · subst h1
          have z1 : (("int" : String) == "int" || ("int" : String) == "bool") = true := by decide
          have z2 : (("int" : String) == "bool") = false := by decide
          rw [z1] at g1
          rw [z2] at g2
          simp [R_var, g1, g2, wipeE]
        · by_cases h2 : V = "bool"
          · subst h2
            have z1 : (("bool" : String) == "int" || ("bool" : String) == "bool") = true := by decide
            have z2 : (("bool" : String) == "bool") = true := by decide
            rw [z1] at g1
            rw [z2] at g2
            simp [R_var, g1, g2, wipeE]
          · have z1 : (V == "int" || V == "bool") = false := by simp [h1, h2]
            rw [z1] at g1
            simp [R_var, g1, h1, wipeE]
      refine R_lcL (g := fun d => if tyB d = some "int" then none else some d) [x, y] (fun d hd => ?_) (q _ ?_ ?_)
      · simp at hd
        rcases hd with rfl | rfl
        · have := turn hx
          simpa [hx] using this
        · have := turn hy
          simpa [hy] using this
      · intro e
        have m : ∀ d ∈ [x, y], tyB d = some "int" := fun d hd => by
          refine Classical.byContradiction fun n => ?_
          have : d ∈ [x, y].filterMap (fun d => if tyB d = some "int" then none else some d) := List.mem_filterMap.mpr ⟨d, hd, by simp [n]⟩
          rw [e] at this
          cases this
        have m1 := m x (by simp)
        have m2 := m y (by simp)
        rw [hx] at m1
        rw [hy] at m2
        rcases h with h | h
        · exact h (Option.some.inj m1)
        · exact h (Option.some.inj m2)
      · intro r hr
        obtain ⟨d, hd, e⟩ := List.mem_filterMap.mp hr
        split at e
        · cases e
        · cases e
          simp at hd
          rcases hd with rfl | rfl
          · exact px
          · exact py
    refine D_eq ?_
    simp [d_law_is_good, startE, R_var, e1, R_liftNg, peek, peeks, lenD, neD_int, R_lcM, iterD, noOwn, wipeE]
    refine lc _ fun rs h1 h2 => ?_
    simp [restE, R_lift2g, peek, ne_nil h1 h2, outR]
theorem pyo_int {i : Int} : PyO (.int i) := ⟨.int i, by simp [toPy], by simp [PyData.canLay0], by simp [PyData.depth]⟩
theorem pyo_bl {b : Bool} : PyO (.bl b) := ⟨.bool b, by simp [toPy], by simp [PyData.canLay0], by simp [PyData.depth]⟩
theorem pyo_non : PyO .non := ⟨.none, by simp [toPy], by simp [PyData.canLay0], by simp [PyData.depth]⟩
theorem pyo_str {x : Str} (h : Cps x) : PyO (.str x) := by
  obtain ⟨p, e1, e2, _, _, e3, _⟩ := Pl_str h
  exact ⟨p, e1, e2, e3⟩
/-- values of any kind -/
theorem R_odd2 {b : Nat} {w : W} {Q : RV → W → Prop} (h : Okb (b + 1) w) (q : ∀ d w', NearD d → Okb b w' → Q (.sh d) w') : Ran (D_law_odd [.draw] w) Q := by
  have p20 : powI 10 20 = some (.sh (.int (10 ^ 20))) := pow10 20 (by decide)
  have p40 : powI 10 40 = some (.sh (.int (10 ^ 40))) := pow10 40 (by decide)
  refine D_run ?_
  unfold d_law_odd
  rw [R_seq]
  refine (R_some rfl).mpr ?_
  show R (seqM _ _) _ _ _
  rw [R_seq]
  refine (R_some rfl).mpr ?_
  show R (retM _) _ _ _
  simp [startE, R_var, R_own, R_escow]
  refine R_pick h (by simp) (by simp) fun d w1 hd h1 => ?_
  simp [outR]
  refine q d w1 ?_ h1
  have no : ∀ {d : D} {T : String}, tyB d = some T → T ≠ "tuple" → isFr d = false → shB 6 3000 d = true → lf d = true → NearD d := fun h hT hi sh l => near_no h hT hi (Sh_of sh) l
  have le : ∀ {ds : List D}, ds.length ≠ 2 → shB 6 3000 (.tup ds) = true → lf (.tup ds) = true → NearD (.tup ds) := fun h sh l => near_len h (Sh_of sh) l
  have cpa : Cps ("a" : Str) := cps_of _
  have cpb : Cps ("b" : Str) := cps_of _
  simp at hd
  rcases hd with rfl | rfl | rfl | rfl | rfl | rfl | rfl | rfl | rfl | rfl | rfl | rfl | rfl | rfl | rfl | rfl | rfl | rfl | rfl | rfl | rfl | rfl | rfl | rfl | rfl | rfl | rfl | rfl | rfl | rfl
  all_goals first
    | exact no rfl (by decide) rfl (by decide +kernel) rfl
    | exact le (by decide) (by decide +kernel) rfl
    | exact near_pair (by decide) (by decide)
    | exact near_mixed (T := "str") (U := "str") rfl rfl (.inl (by decide)) (pyo_str cpa) (pyo_str cpb) (Sh_of (by decide +kernel)) rfl
    | exact near_mixed (T := "int") (U := "NoneType") rfl rfl (.inr (by decide)) pyo_int pyo_non (Sh_of (by decide +kernel)) rfl
theorem sh_str {x : Str} (c : Cps x) (h : x.length ≤ 72) : Sh 0 1300 (.str x) := by
  obtain ⟨p, e1, e2, e3, e4, e5, e6, e7⟩ := PlB_str (B := 8) c
  simp [toPy] at e1
  subst e1
  have hl := PyData.shown_le 8 (by decide) _ e6
  have e8 : x.cps.size ≤ 72 := h
  have w1 : (PyData.str x).weight = x.cps.size := by simp [PyData.weight]
  exact ⟨_, by simp [toPyK], e3, e5, by omega, cps_shown _ e2⟩
/-- values near to a fraction -/
theorem R_near {b : Nat} {w : W} {x : Int × Nat} {Q : RV → W → Prop} (hx : FrB x) (ht : x.1.natAbs ≤ 2 ^ 233) (hb : x.2 ≤ 2 ^ 233) (h : Okb (b + 2) w) (q : ∀ d w', NearD d → Okb b w' → Q (.sh d) w') : Ran (D_law_near [.draw, frD x] w) Q := by
  have l1 : (2 : Nat) ^ 234 = 2 * 2 ^ 233 := by decide
  have m1 : mulD (.int x.1) (.int 2) = some (.sh (.int (x.1 * 2))) := mulD_bits (m := 2) (hx.bt.t) (by decide) (by decide)
  have m2 : mulD (.int (x.2 : Int)) (.int 2) = some (.sh (.int ((x.2 : Int) * 2))) := mulD_bits (m := 2) (nB hx.bt.b) (by decide) (by decide)
  have xs : strID [.int x.1] = some (.sh (.str (toString x.1))) := by
    have hl : x.1.natAbs.log2 < 1920 := by
      by_cases z : x.1.natAbs = 0
      · rw [z]
        decide
      · exact (Nat.log2_lt z).mpr (Nat.lt_of_le_of_lt ht (by decide))
    simp [strID, hl]
  have si : ∀ i : Int, i.natAbs ≤ 2 ^ 234 → Sh 0 600 (.int i) := fun i h => Sh_int (Nat.lt_of_le_of_lt h (by decide))
  have b2 : ((x.2 : Int)).natAbs ≤ 2 ^ 234 := by simpa using hx.b
  have cx : Cps ((toString x.1 : String) : Str) := cps_of _
  have sx : Sh 0 1300 (.str ((toString x.1 : String) : Str)) := by
    have e := int_text_length_le10 (k := 71) (by decide) (show x.1.natAbs < 10 ^ 71 from Nat.lt_of_le_of_lt ht (by decide))
    have e' : (Str.ofString (toString x.1)).length ≤ 72 := by
      rw [ofString_length]
      omega
    exact sh_str cx e'
  obtain ⟨V, hV⟩ : ∃ V : FD.Env → W → Prop, ∀ ρ u, V ρ u ↔ w = u ∧ ρ = [some (.val .draw), some (.val (frD x)), some (.val (.int x.1)), some (.val (.int (x.2 : Int))), none] := ⟨_, fun _ _ => Iff.rfl⟩
  refine D_run ?_
  unfold d_law_near
  refine R_then V ?_ ?_
  · simp [startE, R_var]
    exact (hV _ _).mpr ⟨rfl, rfl⟩
  intro ρ1 w1 hv
  obtain ⟨rfl, rfl⟩ := (hV _ _).mp hv
  refine R_then (fun ρ u => w = u ∧ ρ = [some (.val .draw), some (.val (frD x)), some (.val (.int x.1)), some (.val (.int (x.2 : Int))), some (.own (.lst [frD x, frD x, .lst [.int x.1, .int (x.2 : Int)], .tup [.int (x.1 * 2), .int ((x.2 : Int) * 2)], .tup [.int x.1, .int (0 - (x.2 : Int))], .tup [.int x.1, .int 0], .tup [.int x.1], .tup [.int x.1, .int (x.2 : Int), .int 1]]))]) ?_ ?_
  · simp (maxSteps := 1000000) [R_var, R_lift2g, peek, m1, m2, intD, i0]
  rintro _ _ ⟨rfl, rfl⟩
  simp (maxSteps := 1000000) [R_var, R_lift2g, R_liftNg, peek, peeks, R_own, slotD, xs]
  refine R_odd2 h fun d0 w2 n0 h2 => ?_
  simp [addD]
  refine R_pick h2 (by simp) (by simp) fun d w3 hd h3 => ?_
  simp [outR]
  refine q d w3 ?_ h3
  simp at hd
  rcases hd with rfl | rfl | rfl | rfl | rfl | rfl | rfl | rfl | rfl | rfl | rfl | rfl
  · exact near_pair hx.t b2
  · refine near_no (T := "list") rfl (by decide) rfl ((Sh_lst (n := 0) (m := 600) fun d hd => ?_).mono (by omega) (by simp)) rfl
    simp at hd
    rcases hd with rfl | rfl
    · exact si _ hx.t
    · exact si _ b2
  · refine near_pair ?_ ?_
    · rw [Int.natAbs_mul]
      show x.1.natAbs * 2 ≤ 2 ^ 234
      omega
    · rw [Int.natAbs_mul]
      show ((x.2 : Int)).natAbs * 2 ≤ 2 ^ 234
      omega
  · exact near_pair hx.t (by simpa using b2)
  · exact near_pair hx.t (by decide)
  · refine near_len (by simp) ((Sh_tup (n := 0) (m := 600) fun d hd => ?_).mono (by omega) (by simp)) rfl
    simp at hd
    subst hd
    exact si _ hx.t
  · refine near_len (by simp) ((Sh_tup (n := 0) (m := 600) fun d hd => ?_).mono (by omega) (by simp)) rfl
    simp at hd
    rcases hd with rfl | rfl | rfl
    · exact si _ hx.t
    · exact si _ b2
    · exact si _ (by decide)
  · refine near_mixed (T := "bool") (U := "int") rfl rfl (.inl (by decide)) pyo_bl pyo_int ((Sh_tup (n := 0) (m := 600) fun d hd => ?_).mono (by omega) (by simp)) rfl
    simp at hd
    rcases hd with rfl | rfl
    · exact Sh_bl.mono (by omega) (by omega)
    · exact si _ b2
  · refine near_mixed (T := "int") (U := "bool") rfl rfl (.inr (by decide)) pyo_int pyo_bl ((Sh_tup (n := 0) (m := 600) fun d hd => ?_).mono (by omega) (by simp)) rfl
    simp at hd
    rcases hd with rfl | rfl
    · exact si _ hx.t
    · exact Sh_bl.mono (by omega) (by omega)
  · refine near_mixed (T := "NoneType") (U := "int") rfl rfl (.inl (by decide)) pyo_non pyo_int ((Sh_tup (n := 0) (m := 600) fun d hd => ?_).mono (by omega) (by simp)) rfl
    simp at hd
    rcases hd with rfl | rfl
    · exact Sh_non.mono (by omega) (by omega)
    · exact si _ b2
  · refine near_mixed (T := "str") (U := "int") rfl rfl (.inl (by decide)) (pyo_str cx) pyo_int ((Sh_tup (n := 0) (m := 1300) fun d hd => ?_).mono (by omega) (by simp)) rfl
    simp at hd
    rcases hd with rfl | rfl
    · exact sx.mono (by omega) (by omega)
    · exact (si _ b2).mono (by omega) (by omega)
  · exact n0
end KL

end sec_K02i
section sec_K02h
set_option maxRecDepth 100000
set_option maxHeartbeats 1000000
/-! K02h: what the calls give, and what is told of them. -/
namespace KL
open PySem L2 FD
local instance tk02h : Tabl := { T := [] }
variable {w : W}
theorem E_eq {n : Nat} {g : M RV} {ds : List D} {w w0 : W} {r0 : RV} (hn : ds.length = n) (h : R g (startE n ds) w fun r ρ' w' => w' = w0 ∧ outR ρ' r = some r0) : denE n g ds w = some (r0, w0) := by
  obtain ⟨r, ρ', w', e, rfl, h1⟩ := h
  simp [denE, hn, e, h1]
theorem EX_eq {n : Nat} {g : M Xn} {ds : List D} {w w0 : W} {x : Xn} (hn : ds.length = n) (h : R g (startE n ds) w fun y _ v => y = x ∧ v = w0) : denEX n g ds w = some (x, w0) := by
  obtain ⟨y, ρ', v, e, rfl, rfl⟩ := h
  simp [denEX, hn, e]
@[simp] theorem R_callKM {ρ : FD.Env} {ix : List Nat} {den : List D → W → Option (RV × W)} {fa : M (List RV)} {Q : RV → FD.Env → W → Prop} : R (callKM ix den fa) ρ w Q ↔ R fa ρ w fun rs ρ1 w1 => R (escAll rs) ρ1 w1 fun ds ρ2 w2 => Ran (den (pickL ix ds) w2) fun r w' => Q r ρ2 w' := by
  unfold callKM
  simp
@[simp] theorem R_callKX {ρ : FD.Env} {ix : List Nat} {den : List D → W → Option (Xn × W)} {fa : M (List RV)} {Q : Xn → FD.Env → W → Prop} : R (callKX ix den fa) ρ w Q ↔ R fa ρ w fun rs ρ1 w1 => R (escAll rs) ρ1 w1 fun ds ρ2 w2 => RanX (den (pickL ix ds) w2) fun r w' => Q r ρ2 w' := by
  unfold callKX
  simp
theorem N_callK {ρ : FD.Env} {ix : List Nat} {den : List D → W → Option (RV × W)} {fa : M (List RV)} (h : R fa ρ w fun rs ρ1 w1 => R (escAll rs) ρ1 w1 fun ds _ w2 => den (pickL ix ds) w2 = none) : callKM ix den fa ρ w = none := N_bind (h.mono fun _ _ _ h => N_bind (h.mono fun _ _ _ h => N_run h))
@[simp] theorem R_offLfr {ρ : FD.Env} {d : D} {Q : RV → FD.Env → W → Prop} : R (offL (.fr d)) ρ w Q ↔ lf d = true ∧ Q (.fr d) ρ w := by
  constructor
  · rintro ⟨a, ρ1, w1, e, q⟩
    obtain ⟨h1, h2, h3, h4⟩ := offL_some e
    subst h1 h2 h3
    rcases h4 with ⟨d', e, l⟩ | ⟨d', e, l⟩
    · cases e
    · cases e
      exact ⟨l, q⟩
  · rintro ⟨l, q⟩
    exact ⟨_, _, _, by simp [offL, l]; rfl, q⟩
theorem N_seq {f g : M Fl} {ρ : FD.Env} {w : W} (h : R f ρ w fun fl ρ1 w1 => fl = .nx ∧ g ρ1 w1 = none) : seqM f g ρ w = none :=
  N_bind (h.mono fun _ _ _ q => by rw [q.1]; exact q.2)
abbrev bad (d : D) : Xn := ⟨"BadNumber", [("number", d)]⟩
/-! ### fraction -/
theorem fraction_ok {a : Int} {n : Nat} (hn : 0 < n) (h1 : a.natAbs < 2 ^ 2000) (h2 : n < 2 ^ 2000) : D_fraction [.int a, .int (n : Int)] w = some (.sh (frD (red a n)), w) := by
  have c := fun w => divided_eq (w := w) hn (pow_mono' (m := 400000) (by decide) h1) (pow_mono' (m := 8000) (by decide) h2)
  have l : ltD (.int (n : Int)) (.int 1) = some (.sh (.bl false)) := by
    have : ¬ ((n : Int) < 1) := by omega
    simp [ltD, ordD, this]
  refine D_eq ?_
  simp [d_fraction, startE, R_var, num_int, R_lift2g, peek, l, c, outR]
theorem fraction_bad1 {d e : D} {T : String} (h : tyB d = some T) (hT : T ≠ "int") : D_fraction [d, e] w = none ∧ X_fraction [d, e] w = some (bad d, w) := by
  have n1 := fun w => is_num (w := w) h
  have h' : decide (T = "int") = false := by simpa using hT
  rw [h'] at n1
  constructor
  · refine D_none (N_bind0 (N_bind ?_))
    simp [startE, R_var, n1]
    rfl
  · refine X_eq (R_alt1 ?_)
    simp [startE, R_var, n1]
theorem fraction_bad2 {a : Int} {e : D} {T : String} (h : tyB e = some T) (hT : T ≠ "int") : D_fraction [.int a, e] w = none ∧ X_fraction [.int a, e] w = some (bad e, w) := by
  have n1 := fun w => is_num (w := w) h
  have h' : decide (T = "int") = false := by simpa using hT
  rw [h'] at n1
  constructor
  · refine D_none (N_seq ?_)
    simp [startE, R_var, num_int]
    refine N_bind0 (N_bind ?_)
    simp [startE, R_var, n1]
    rfl
  · refine X_eq (R_alt2 (N_bind ?_) ?_)
    · simp [startE, R_var, num_int]
      rfl
    · simp [startE, R_var, num_int, n1]
theorem fraction_bad3 {a b : Int} (h : b < 1) : D_fraction [.int a, .int b] w = none ∧ X_fraction [.int a, .int b] w = some (bad (.int b), w) := by
  have l : ltD (.int b) (.int 1) = some (.sh (.bl true)) := by simp [ltD, ordD, h]
  constructor
  · refine D_none (N_seq ?_)
    simp [startE, R_var, num_int]
    refine N_bind0 (N_bind ?_)
    simp [startE, R_var, num_int, R_lift2g, peek, l]
    rfl
  · refine X_eq (R_alt2 (N_bind ?_) ?_)
    · simp [startE, R_var, num_int]
      rfl
    · simp [startE, R_var, num_int, R_lift2g, peek, l]
/-! ### lists -/
abbrev Sq (d : D) (ds : List D) : Prop := d = .lst ds ∨ d = .tup ds
theorem sq_facts {d : D} {ds : List D} (h : Sq d ds) : isiD bt_list_tuple ic_list_tuple d = some true ∧ iterD d = some ds := by
  rcases h with rfl | rfl <;> exact ⟨by simp [isiD, tyB, bt_list_tuple], rfl⟩
abbrev cdF : M Bool := notT (boolM (callM D_is_fraction [] (consA (varM 1) (pureM []))))
abbrev bdF : M Fl := ifM cdF failM (pureM .nx)
abbrev xbF : M Xn := ifX cdF (raiseX "BadNumber" "number" (consA (varM 1) (pureM []))) failM
theorem need_ok {d : D} {ds : List D} (hd : Sq d ds) (hn : ∀ e ∈ ds, NearD e ∧ isFr e = true) : D_need_fractions [d] w = some (.sh .non, w) := by
  obtain ⟨e1, e2⟩ := sq_facts hd
  refine D_eq ?_
  obtain ⟨J, hJ⟩ : ∃ J : List D → FD.Env → W → Prop, ∀ l ρ u, J l ρ u ↔ w = u ∧ (∀ e ∈ l, NearD e ∧ isFr e = true) ∧ ∃ x, ρ = [some (.val d), x] := ⟨_, fun _ _ _ => Iff.rfl⟩
  simp [d_need_fractions, startE, R_var, e1, e2]
  refine R_forL J ?_ ?_ _ _ _ ((hJ _ _ _).mpr ⟨rfl, hn, none, rfl⟩)
  · intro e l ρ u h
    obtain ⟨rfl, hl, x, rfl⟩ := (hJ _ _ _).mp h
    have he := hl e List.mem_cons_self
    simp [R_var, he.1.isf, he.2]
    exact (hJ _ _ _).mpr ⟨rfl, fun e' h' => hl e' (List.mem_cons_of_mem _ h'), _, rfl⟩
  · intro ρ u h
    obtain ⟨rfl, _, x, rfl⟩ := (hJ _ _ _).mp h
    simp
theorem need_bad {d e : D} {pre rest : List D} (hd : Sq d (pre ++ e :: rest)) (hn : ∀ e ∈ pre, NearD e ∧ isFr e = true) (he : NearD e) (hi : isFr e = false) : D_need_fractions [d] w = none ∧ X_need_fractions [d] w = some (bad e, w) := by
  obtain ⟨e1, e2⟩ := sq_facts hd
  obtain ⟨J, hJ⟩ : ∃ J : List D → FD.Env → W → Prop, ∀ l ρ u, J l ρ u ↔ w = u ∧ (∀ e ∈ l, NearD e ∧ isFr e = true) ∧ ∃ x, ρ = [some (.val d), x] := ⟨_, fun _ _ _ => Iff.rfl⟩
  have step : ∀ dd l ρ w', J (dd :: l) ρ w' → R (gNameM 1 dd) ρ w' fun _ ρ1 w1 => xbF ρ1 w1 = none ∧ R bdF ρ1 w1 fun fl ρ2 w2 => fl = .nx ∧ J l ρ2 w2 := fun dd l ρ w' h => by
    obtain ⟨rfl, hl, x, rfl⟩ := (hJ _ _ _).mp h
    have hq := hl dd List.mem_cons_self
    simp only [R_gName, List.set_cons_succ, List.set_cons_zero, List.set_nil]
    refine ⟨N_bind ?_, ?_⟩
    · simp [R_var, hq.1.isf, hq.2]
      rfl
    · simp [R_var, hq.1.isf, hq.2]
      exact (hJ _ _ _).mpr ⟨rfl, fun e' h' => hl e' (List.mem_cons_of_mem _ h'), _, rfl⟩
  have i0 : J pre [some (.val d), none] w := (hJ _ _ _).mpr ⟨rfl, hn, none, rfl⟩
  constructor
  · refine D_none (N_seq ?_)
    simp [startE, R_var, e1]
    refine N_bind ?_
    simp [R_var, e2]
    refine N_forL (xb := xbF) J step (fun ρ w' h => ?_) _ _ _ i0
    obtain ⟨rfl, hl, x, rfl⟩ := (hJ _ _ _).mp h
    simp only [R_gName, List.set_cons_succ, List.set_cons_zero, List.set_nil]
    refine N_bind ?_
    simp [R_var, he.isf, hi]
    rfl
  · refine X_eq (R_alt2 (N_bind ?_) ?_)
    · simp [startE, R_var, e1]
      rfl
    · simp [startE, R_var, e1, forX, e2]
      refine R_forXL J step (fun ρ w' h => ?_) _ _ _ i0
      obtain ⟨rfl, hl, x, rfl⟩ := (hJ _ _ _).mp h
      simp [R_var, he.isf, hi]
theorem need_no {d : D} {T : String} (h : tyB d = some T) (h1 : T ≠ "list") (h2 : T ≠ "tuple") : D_need_fractions [d] w = none ∧ X_need_fractions [d] w = some (bad d, w) := by
  have e1 : isiD bt_list_tuple ic_list_tuple d = some false := by
    have q : bt_list_tuple T = false := by simp [bt_list_tuple, h1, h2]
    cases d <;> simp [tyB] at h <;> subst h <;> simp [isiD, tyB, q] <;> exact q
  constructor
  · refine D_none (N_bind0 (N_bind ?_))
    simp [startE, R_var, e1]
    rfl
  · refine X_eq (R_alt1 ?_)
    simp [startE, R_var, e1]
theorem sums_no {d : D} {x : Xn} (h : D_need_fractions [d] w = none ∧ X_need_fractions [d] w = some (x, w)) : (D_added [d] w = none ∧ X_added [d] w = some (x, w)) ∧ (D_multiplied [d] w = none ∧ X_multiplied [d] w = some (x, w)) := by
  refine ⟨⟨D_none (N_bind0 (N_bind0 (N_call ?_))), X_eq ?_⟩, ⟨D_none (N_bind0 (N_bind0 (N_call ?_))), X_eq ?_⟩⟩
  · simp [startE, R_var, h.1]
  · simp [x_added, startE, R_var, h.2]
  · simp [startE, R_var, h.1]
  · simp [x_multiplied, startE, R_var, h.2]
/-- fractions as they are drawn -/
structure Fine (x : Int × Nat) : Prop where
  b : FrB x
  n : NearD (frD x)
  i : isFr (frD x) = true
theorem added_ok {d : D} {xs : List (Int × Nat)} (hd : Sq d (xs.map frD)) (hx : ∀ x ∈ xs, Fine x) (hl : xs.length ≤ 8) : D_added [d] w = some (.sh (frD (sumF xs)), w) := by
  obtain ⟨_, e2⟩ := sq_facts hd
  have nd := fun w => need_ok (w := w) hd fun e he => by
    obtain ⟨x, h1, rfl⟩ := List.mem_map.mp he
    exact ⟨(hx x h1).n, (hx x h1).i⟩
  obtain ⟨J, hJ⟩ : ∃ J : List (Int × Nat) → FD.Env → W → Prop, ∀ l ρ u, J l ρ u ↔ w = u ∧ (∀ x ∈ l, Fine x) ∧ ∃ (x2 : Option Slot) (k : Nat) (acc : Int × Nat), ρ = [some (.val d), some (.val (frD acc)), x2] ∧ FrK k acc ∧ k + l.length ≤ 8 ∧ l.foldl plusF acc = sumF xs := ⟨_, fun _ _ _ => Iff.rfl⟩
  obtain ⟨V, hV⟩ : ∃ V : FD.Env → W → Prop, ∀ ρ u, V ρ u ↔ w = u ∧ ∃ x2, ρ = [some (.val d), some (.val (frD (sumF xs))), x2] := ⟨_, fun _ _ => Iff.rfl⟩
  refine D_eq ?_
  unfold d_added
  refine R_then (fun ρ u => w = u ∧ ρ = [some (.val d), none, none]) ?_ ?_
  · simp [startE, R_var, nd]
  rintro _ _ ⟨rfl, rfl⟩
  refine R_then (fun ρ u => w = u ∧ ρ = [some (.val d), some (.val (frD zeroF)), none]) ?_ ?_
  · simp [zeroF]
  rintro _ _ ⟨rfl, rfl⟩
  refine R_then V ?_ ?_
  · simp [R_var, e2]
    refine R_forLm frD J ?_ ?_ _ _ _ ((hJ _ _ _).mpr ⟨rfl, hx, none, 0, zeroF, rfl, zeroK, by omega, rfl⟩)
    · intro x l ρ u h
      obtain ⟨rfl, hl, x2, k, acc, rfl, hk, hkl, hf⟩ := (hJ _ _ _).mp h
      simp only [List.length_cons] at hkl
      have fx := hl x List.mem_cons_self
      have c := fun w => plus_eq (w := w) (hk.bt (by omega)) fx.b.bt
      simp [R_var, c]
      exact (hJ _ _ _).mpr ⟨rfl, fun z hz => hl z (List.mem_cons_of_mem _ hz), _, k + 1, _, rfl, hk.plus fx.b, by omega, hf⟩
    · intro ρ u h
      obtain ⟨rfl, hl, x2, k, acc, rfl, hk, hkl, hf⟩ := (hJ _ _ _).mp h
      refine ⟨rfl, (hV _ _).mpr ⟨rfl, x2, ?_⟩⟩
      rw [← hf]
      rfl
  intro ρ1 w1 hv
  obtain ⟨rfl, x2, rfl⟩ := (hV _ _).mp hv
  simp [R_var, outR]
theorem multiplied_ok {d : D} {xs : List (Int × Nat)} (hd : Sq d (xs.map frD)) (hx : ∀ x ∈ xs, Fine x) (hl : xs.length ≤ 8) : D_multiplied [d] w = some (.sh (frD (prodF xs)), w) := by
  obtain ⟨_, e2⟩ := sq_facts hd
  have nd := fun w => need_ok (w := w) hd fun e he => by
    obtain ⟨x, h1, rfl⟩ := List.mem_map.mp he
    exact ⟨(hx x h1).n, (hx x h1).i⟩
  obtain ⟨J, hJ⟩ : ∃ J : List (Int × Nat) → FD.Env → W → Prop, ∀ l ρ u, J l ρ u ↔ w = u ∧ (∀ x ∈ l, Fine x) ∧ ∃ (x2 : Option Slot) (k : Nat) (acc : Int × Nat), ρ = [some (.val d), some (.val (frD acc)), x2] ∧ FrK k acc ∧ k + l.length ≤ 8 ∧ l.foldl timesF acc = prodF xs := ⟨_, fun _ _ _ => Iff.rfl⟩
  obtain ⟨V, hV⟩ : ∃ V : FD.Env → W → Prop, ∀ ρ u, V ρ u ↔ w = u ∧ ∃ x2, ρ = [some (.val d), some (.val (frD (prodF xs))), x2] := ⟨_, fun _ _ => Iff.rfl⟩
  refine D_eq ?_
  unfold d_multiplied
  refine R_then (fun ρ u => w = u ∧ ρ = [some (.val d), none, none]) ?_ ?_
  · simp [startE, R_var, nd]
  rintro _ _ ⟨rfl, rfl⟩
  refine R_then (fun ρ u => w = u ∧ ρ = [some (.val d), some (.val (frD oneF)), none]) ?_ ?_
  · simp [oneF]
  rintro _ _ ⟨rfl, rfl⟩
  refine R_then V ?_ ?_
  · simp [R_var, e2]
    refine R_forLm frD J ?_ ?_ _ _ _ ((hJ _ _ _).mpr ⟨rfl, hx, none, 0, oneF, rfl, oneK, by omega, rfl⟩)
    · intro x l ρ u h
      obtain ⟨rfl, hl, x2, k, acc, rfl, hk, hkl, hf⟩ := (hJ _ _ _).mp h
      simp only [List.length_cons] at hkl
      have fx := hl x List.mem_cons_self
      have c := fun w => times_eq (w := w) (hk.bt (by omega)) fx.b.bt
      simp [R_var, c]
      exact (hJ _ _ _).mpr ⟨rfl, fun z hz => hl z (List.mem_cons_of_mem _ hz), _, k + 1, _, rfl, hk.times fx.b, by omega, hf⟩
    · intro ρ u h
      obtain ⟨rfl, hl, x2, k, acc, rfl, hk, hkl, hf⟩ := (hJ _ _ _).mp h
      refine ⟨rfl, (hV _ _).mpr ⟨rfl, x2, ?_⟩⟩
      rw [← hf]
      rfl
  intro ρ1 w1 hv
  obtain ⟨rfl, x2, rfl⟩ := (hV _ _).mp hv
  simp [R_var, outR]
/-! ### what is told -/
theorem lfs_of : ∀ {ds : List D}, (∀ d ∈ ds, lf d = true) → lfs ds = true
  | [], _ => rfl
  | d :: ds, h => by simp [lfs, h d List.mem_cons_self, lfs_of fun e he => h e (List.mem_cons_of_mem _ he)]
theorem lfs1 {d : D} (h : lf d = true) : lfs [d] = true := by simp [lfs, h]
theorem told_sums {ds : List D} {xs : List (Int × Nat)} (he : ds = xs.map frD) (hx : ∀ x ∈ xs, Fine x) (hl : xs.length ≤ 8) :
    D_law_told [.lam 0 [.lst ds]] w = some (.sh (.tup [frD (sumF xs)]), w) ∧ D_law_told [.lam 1 [.lst ds]] w = some (.sh (.tup [frD (prodF xs)]), w) ∧ D_law_told [.lam 2 [.lst ds]] w = some (.sh (.tup [frD (sumF xs)]), w) ∧ D_law_told [.lam 3 [.lst ds]] w = some (.sh (.tup [frD (prodF xs)]), w) := by
  subst he
  have l : lfs [.lst (xs.map frD)] = true := lfs1 (show lfs _ = true from lfs_of fun d hd => by
    obtain ⟨x, h1, rfl⟩ := List.mem_map.mp hd
    exact (hx x h1).n.lf)
  have a1 := fun w => added_ok (w := w) (.inl rfl) hx hl
  have a2 := fun w => added_ok (w := w) (.inr rfl) hx hl
  have m1 := fun w => multiplied_ok (w := w) (.inl rfl) hx hl
  have m2 := fun w => multiplied_ok (w := w) (.inr rfl) hx hl
  refine ⟨told_ok l ?_, told_ok l ?_, told_ok l ?_, told_ok l ?_⟩
  · refine E_eq rfl ?_
    simp [g_lam_0, startE, R_var, a1, outR]
  · refine E_eq rfl ?_
    simp [g_lam_1, startE, R_var, m1, outR]
  · refine E_eq rfl ?_
    simp [g_lam_2, startE, R_var, R_liftNg, peeks, peek, tupD, pickL, a2, outR]
  · refine E_eq rfl ?_
    simp [g_lam_3, startE, R_var, R_liftNg, peeks, peek, tupD, pickL, m2, outR]
theorem told_sums_bad {ds pre rest : List D} {e : D} (he : ds = pre ++ e :: rest) (hn : ∀ e ∈ pre, NearD e ∧ isFr e = true) (hb : NearD e) (hi : isFr e = false) (l : ∀ d ∈ ds, lf d = true) :
    D_law_told [.lam 0 [.lst ds]] w = some (.fr (.lst [e]), w) ∧ D_law_told [.lam 1 [.lst ds]] w = some (.fr (.lst [e]), w) ∧ D_law_told [.lam 2 [.lst ds]] w = some (.fr (.lst [e]), w) ∧ D_law_told [.lam 3 [.lst ds]] w = some (.fr (.lst [e]), w) := by
  have l : lfs [.lst ds] = true := lfs1 (show lfs _ = true from lfs_of l)
  subst he
  have b1 := fun w => sums_no (need_bad (w := w) (d := .lst (pre ++ e :: rest)) (rest := rest) (.inl rfl) hn hb hi)
  have b2 := fun w => sums_no (need_bad (w := w) (d := .tup (pre ++ e :: rest)) (rest := rest) (.inr rfl) hn hb hi)
  refine ⟨told_bad l ?_ ?_, told_bad l ?_ ?_, told_bad l ?_ ?_, told_bad l ?_ ?_⟩
  · refine E_none (N_call ?_)
    simp [startE, R_var, b1]
  · refine EX_eq rfl ?_
    simp [x_lam_0, startE, R_var, b1]
  · refine E_none (N_call ?_)
    simp [startE, R_var, b1]
  · refine EX_eq rfl ?_
    simp [x_lam_1, startE, R_var, b1]
  · refine E_none (N_callK ?_)
    simp [startE, R_var, R_liftNg, peeks, peek, tupD, pickL, b2]
  · refine EX_eq rfl ?_
    simp [x_lam_2, startE, R_var, R_liftNg, peeks, peek, tupD, pickL, b2]
  · refine E_none (N_callK ?_)
    simp [startE, R_var, R_liftNg, peeks, peek, tupD, pickL, b2]
  · refine EX_eq rfl ?_
    simp [x_lam_3, startE, R_var, R_liftNg, peeks, peek, tupD, pickL, b2]
theorem told_none {d : D} {T : String} (h : tyB d = some T) (h1 : T ≠ "list") (h2 : T ≠ "tuple") (l : lf d = true) : D_law_told [.lam 6 [d]] w = some (.fr (.lst [d]), w) ∧ D_law_told [.lam 7 [d]] w = some (.fr (.lst [d]), w) := by
  have b1 := fun w => sums_no (need_no (w := w) h h1 h2)
  refine ⟨told_bad (lfs1 l) ?_ ?_, told_bad (lfs1 l) ?_ ?_⟩
  · refine E_none (N_call ?_)
    simp [startE, R_var, b1]
  · refine EX_eq rfl ?_
    simp [x_lam_6, startE, R_var, b1]
  · refine E_none (N_call ?_)
    simp [startE, R_var, b1]
  · refine EX_eq rfl ?_
    simp [x_lam_7, startE, R_var, b1]
theorem told_odd {d : D} {T : String} (h : tyB d = some T) (h1 : T ≠ "int") (l : lf d = true) : D_law_told [.lam 4 [d]] w = some (.fr (.lst [d]), w) ∧ D_law_told [.lam 5 [d]] w = some (.fr (.lst [d]), w) := by
  have b1 := fun w e => fraction_bad1 (w := w) (e := e) h h1
  have b2 := fun w a => fraction_bad2 (w := w) (a := a) h h1
  refine ⟨told_bad (lfs1 l) ?_ ?_, told_bad (lfs1 l) ?_ ?_⟩
  · refine E_none (N_call ?_)
    simp [startE, R_var, b1]
  · refine EX_eq rfl ?_
    simp [x_lam_4, startE, R_var, b1]
  · refine E_none (N_call ?_)
    simp [startE, R_var, b2]
  · refine EX_eq rfl ?_
    simp [x_lam_5, startE, R_var, b2]
theorem told_fraction {a : Int} {n : Nat} (hn : 0 < n) (h1 : a.natAbs < 2 ^ 2000) (h2 : n < 2 ^ 2000) : D_law_told [.lam 8 [.int a, .int (n : Int)]] w = some (.sh (.tup [frD (red a n)]), w) ∧ D_law_told [.lam 9 [.int (n : Int), .int a]] w = some (.sh (.tup [frD (red a n)]), w) := by
  have c := fun w => fraction_ok (w := w) hn h1 h2
  refine ⟨told_ok rfl ?_, told_ok rfl ?_⟩
  · refine E_eq rfl ?_
    simp [g_lam_8, startE, R_var, c, outR]
  · refine E_eq rfl ?_
    simp [g_lam_9, startE, R_var, pickL, c, outR]
theorem told_frac_bad {a b : Int} (h : b < 1) : D_law_told [.lam 8 [.int a, .int b]] w = some (.fr (.lst [.int b]), w) ∧ D_law_told [.lam 9 [.int b, .int a]] w = some (.fr (.lst [.int b]), w) := by
  have c := fun w => fraction_bad3 (w := w) (a := a) h
  refine ⟨told_bad rfl ?_ ?_, told_bad rfl ?_ ?_⟩
  · refine E_none (N_call ?_)
    simp [startE, R_var, c]
  · refine EX_eq rfl ?_
    simp [x_lam_8, startE, R_var, c]
  · refine E_none (N_callK ?_)
    simp [startE, R_var, pickL, c]
  · refine EX_eq rfl ?_
    simp [x_lam_9, startE, R_var, pickL, c]
end KL

end sec_K02h
section sec_K02j
set_option maxRecDepth 100000
set_option maxHeartbeats 1000000
/-! K02j: sums and products of lists, as the law asks for them. -/
namespace KL
open PySem L2 FD
local instance tk02j : Tabl := { T := [] }
variable {w : W}
theorem cut (ds : List D) : (∀ d ∈ ds, isFr d = true) ∨ ∃ pre e rest, ds = pre ++ e :: rest ∧ (∀ d ∈ pre, isFr d = true) ∧ isFr e = false := by
  induction ds with
  | nil => exact .inl fun d h => nomatch h
  | cons d ds ih =>
    cases h : isFr d with
    | false => exact .inr ⟨[], d, ds, rfl, (fun _ z => nomatch z), h⟩
    | true =>
      rcases ih with ih | ⟨pre, e, rest, rfl, h1, h2⟩
      · exact .inl fun d' h' => by
          rcases List.mem_cons.mp h' with rfl | z
          · exact h
          · exact ih d' z
      · refine .inr ⟨d :: pre, e, rest, rfl, fun d' h' => ?_, h2⟩
        rcases List.mem_cons.mp h' with rfl | z
        · exact h
        · exact h1 d' z
theorem fines {ds : List D} (hn : ∀ d ∈ ds, NearD d) (hi : ∀ d ∈ ds, isFr d = true) : ∃ xs : List (Int × Nat), ds = xs.map frD ∧ ∀ x ∈ xs, Fine x := by
  induction ds with
  | nil => exact ⟨[], rfl, fun _ h => nomatch h⟩
  | cons d ds ih =>
    obtain ⟨xs, rfl, hx⟩ := ih (fun d h => hn d (List.mem_cons_of_mem _ h)) fun d h => hi d (List.mem_cons_of_mem _ h)
    have n := hn d List.mem_cons_self
    have i := hi d List.mem_cons_self
    obtain ⟨x, rfl, hb⟩ := n.fr i
    refine ⟨x :: xs, rfl, fun y hy => ?_⟩
    rcases List.mem_cons.mp hy with rfl | z
    · exact ⟨hb, n, i⟩
    · exact hx y z
def wrongs (ds : List D) : List D := ds.filterMap fun d => if isFr d = true then none else some d
theorem wrongs_nil {ds : List D} (h : ∀ d ∈ ds, isFr d = true) : wrongs ds = [] := by
  unfold wrongs
  rw [List.filterMap_eq_nil_iff]
  intro d hd
  simp [h d hd]
theorem wrongs_cons {pre rest : List D} {e : D} (h : ∀ d ∈ pre, isFr d = true) (he : isFr e = false) : wrongs (pre ++ e :: rest) = e :: wrongs rest := by
  have h1 := wrongs_nil h
  unfold wrongs at h1 ⊢
  rw [List.filterMap_append, h1]
  simp [he]
theorem lists_right {ds : List D} (hn : ∀ d ∈ ds, NearD d) (hl : ds.length ≤ 8) : D_law_lists_right [.draw, .lst ds] w = some (.sh (.bl true), w) := by
  have hs : Sh 60 1000000 (.lst ds) := (Sh_lst fun d hd => (hn d hd).sh).mono (by omega) (by omega)
  obtain ⟨s0, q0, _, t0⟩ := rep_Sh hs (.inl ⟨_, rfl⟩)
  refine D_eq ?_
  unfold d_law_lists_right
  refine R_then (fun ρ u => w = u ∧ ρ = [some (.val .draw), some (.val (.lst ds)), some (.val (.lst (wrongs ds))), some (.val (frD zeroF)), some (.val (frD oneF)), some (.val (.str s0)), none, none, none, none]) ?_ ?_
  · simp [startE, R_lcM, R_var, iterD, noOwn, wipeE]
    refine ⟨by omega, R_lcL (g := fun d => if isFr d = true then none else some d) ds (fun d hd => ?_) ?_⟩
    · have g := (hn d hd).gd
      cases h : isFr d with
      | true =>
        rw [h] at g
        simp [R_var, g, wipeE]
      | false =>
        rw [h] at g
        simp [R_var, g, wipeE]
    · simp [restE, R_var, R_liftNg, peek, peeks, q0, wrongs, zeroF, oneF]
  rintro _ _ ⟨rfl, rfl⟩
  rcases cut ds with h | ⟨pre, e, rest, hd, h1, h2⟩
  · obtain ⟨xs, hx, fx⟩ := fines hn h
    have hw := wrongs_nil h
    have hxl : xs.length ≤ 8 := by
      rw [hx] at hl
      simpa using hl
    obtain ⟨c0, c1, c2, c3⟩ := told_sums (w := w) hx fx hxl
    have k1 : FrK xs.length (sumF xs) := by
      have := foldP xs 0 zeroF zeroK fun x h => (fx x h).b
      rwa [Nat.zero_add] at this
    have k2 : FrK xs.length (prodF xs) := by
      have := foldT xs 0 oneF oneK fun x h => (fx x h).b
      rwa [Nat.zero_add] at this
    have sT : Sh 60 1000000 (.lst [.tup [frD (sumF xs)], .tup [frD (prodF xs)], .tup [frD (sumF xs)], .tup [frD (prodF xs)]]) := by
      have a1 : Sh 2 2000 (.tup [frD (sumF xs)]) := (Sh_tup (n := 1) (m := 1300) fun d hd => by
        simp at hd
        subst hd
        exact sh_fr k1 hxl).mono (by omega) (by simp)
      have a2 : Sh 2 2000 (.tup [frD (prodF xs)]) := (Sh_tup (n := 1) (m := 1300) fun d hd => by
        simp at hd
        subst hd
        exact sh_fr k2 hxl).mono (by omega) (by simp)
      refine (Sh_lst (n := 2) (m := 2000) fun d hd => ?_).mono (by omega) (by simp)
      simp at hd
      rcases hd with rfl | rfl | rfl | rfl
      · exact a1
      · exact a2
      · exact a1
      · exact a2
    obtain ⟨s1, q1, _, t1⟩ := rep_Sh sT (.inl ⟨_, rfl⟩)
    rw [hw]
    refine R_then (fun ρ u => w = u ∧ ∃ x6, ρ = [some (.val .draw), some (.val (.lst ds)), some (.val (.lst [])), some (.val (frD (sumF xs))), some (.val (frD (prodF xs))), some (.val (.str s0)), x6, none, none, none]) ?_ ?_
    · obtain ⟨V, hV⟩ : ∃ V : FD.Env → W → Prop, ∀ ρ u, V ρ u ↔ w = u ∧ ∃ x6, ρ = [some (.val .draw), some (.val (.lst ds)), some (.val (.lst [])), some (.val (frD (sumF xs))), some (.val (frD (prodF xs))), some (.val (.str s0)), x6, none, none, none] := ⟨_, fun _ _ => Iff.rfl⟩
      simp only [← hV]
      obtain ⟨J, hJ⟩ : ∃ J : List (Int × Nat) → FD.Env → W → Prop, ∀ l ρ u, J l ρ u ↔ w = u ∧ (∀ x ∈ l, Fine x) ∧ ∃ (x6 : Option Slot) (k : Nat) (a p : Int × Nat), ρ = [some (.val .draw), some (.val (.lst ds)), some (.val (.lst [])), some (.val (frD a)), some (.val (frD p)), some (.val (.str s0)), x6, none, none, none] ∧ FrK k a ∧ FrK k p ∧ k + l.length ≤ 8 ∧ l.foldl plusF a = sumF xs ∧ l.foldl timesF p = prodF xs := ⟨_, fun _ _ _ => Iff.rfl⟩
      simp [R_lcM, R_var, iterD, noOwn, wipeE]
      refine ⟨by omega, R_lcL (g := fun d => some d) ds (fun d hd => ?_) ?_⟩
      · simp [R_var, R_lift2g, peek, eq0_nil, wipeE]
      · simp only [List.filterMap_some]
        simp [restE]
        rw [hx]
        refine R_forLm frD J ?_ ?_ _ _ _ ((hJ _ _ _).mpr ⟨rfl, fx, none, 0, zeroF, oneF, by rw [hx], zeroK, oneK, by omega, rfl, rfl⟩)
        · intro x l ρ u hj
          obtain ⟨rfl, hl, x6, k, a, p, rfl, ka, kp, hkl, hf, hg⟩ := (hJ _ _ _).mp hj
          simp only [List.length_cons] at hkl
          have fx := hl x List.mem_cons_self
          have c := fun w => law_plus_eq (w := w) (ka.bt (by omega)) fx.b.bt
          have c' := fun w => law_times_eq (w := w) (kp.bt (by omega)) fx.b.bt
          simp [R_var, c, c']
          exact (hJ _ _ _).mpr ⟨rfl, fun z hz => hl z (List.mem_cons_of_mem _ hz), _, k + 1, _, _, rfl, ka.plus fx.b, kp.times fx.b, by omega, hf, hg⟩
        · intro ρ u hj
          obtain ⟨rfl, hl, x6, k, a, p, rfl, ka, kp, hkl, hf, hg⟩ := (hJ _ _ _).mp hj
          refine ⟨rfl, (hV _ _).mpr ⟨rfl, x6, ?_⟩⟩
          rw [← hf, ← hg]
          rfl
    rintro _ _ ⟨rfl, x6, rfl⟩
    have l1 : lf (.tup [frD (sumF xs)]) = true := rfl
    have l2 : lf (.tup [frD (prodF xs)]) = true := rfl
    have lds : lfs [.lst ds] = true := lfs1 (show lfs ds = true from lfs_of fun d hd => (hn d hd).lf)
    refine R_then (fun ρ u => w = u ∧ ρ = [some (.val .draw), some (.val (.lst ds)), some (.val (.lst [])), some (.val (frD (sumF xs))), some (.val (frD (prodF xs))), some (.val (.str s0)), x6, none, some (.own (.lst [.tup [frD (sumF xs)]])), none]) ?_ ?_
    · simp [R_owv, c0, l1, lds]
    rintro _ _ ⟨rfl, rfl⟩
    refine R_then (fun ρ u => w = u ∧ ρ = [some (.val .draw), some (.val (.lst ds)), some (.val (.lst [])), some (.val (frD (sumF xs))), some (.val (frD (prodF xs))), some (.val (.str s0)), x6, none, some (.own (.lst [.tup [frD (sumF xs)], .tup [frD (prodF xs)]])), none]) ?_ ?_
    · simp
      refine R_appQ rfl ?_
      simp [R_owv, c1, l2, lds, AppQ, ownL]
    rintro _ _ ⟨rfl, rfl⟩
    refine R_then (fun ρ u => w = u ∧ ρ = [some (.val .draw), some (.val (.lst ds)), some (.val (.lst [])), some (.val (frD (sumF xs))), some (.val (frD (prodF xs))), some (.val (.str s0)), x6, none, some (.own (.lst [.tup [frD (sumF xs)], .tup [frD (prodF xs)], .tup [frD (sumF xs)]])), none]) ?_ ?_
    · simp
      refine R_appQ rfl ?_
      simp [R_owv, c2, l1, lds, AppQ, ownL]
    rintro _ _ ⟨rfl, rfl⟩
    refine R_then (fun ρ u => w = u ∧ ρ = [some (.val .draw), some (.val (.lst ds)), some (.val (.lst [])), some (.val (frD (sumF xs))), some (.val (frD (prodF xs))), some (.val (.str s0)), x6, none, some (.own (.lst [.tup [frD (sumF xs)], .tup [frD (prodF xs)], .tup [frD (sumF xs)], .tup [frD (prodF xs)]])), none]) ?_ ?_
    · simp
      refine R_appQ rfl ?_
      simp [R_owv, c3, l2, lds, AppQ, ownL]
    rintro _ _ ⟨rfl, rfl⟩
    refine R_then (fun ρ u => w = u ∧ ρ = [some (.val .draw), some (.val (.lst ds)), some (.val (.lst [])), some (.val (frD (sumF xs))), some (.val (frD (prodF xs))), some (.val (.str s0)), x6, none, some (.own (.lst [.tup [frD (sumF xs)], .tup [frD (prodF xs)], .tup [frD (sumF xs)], .tup [frD (prodF xs)]])), some (.own (.lst [.tup [frD (sumF xs)], .tup [frD (prodF xs)], .tup [frD (sumF xs)], .tup [frD (prodF xs)]]))]) ?_ ?_
    · simp [R_var, R_lift2g, peek, eq0_nil]
    rintro _ _ ⟨rfl, rfl⟩
    simp [R_var, R_own, R_liftNg, peeks, peek, slotD, q1, q0, R_lift2g, t1, t0, outR]
  · have hw : wrongs ds = e :: wrongs rest := by rw [hd]; exact wrongs_cons h1 h2
    have ne : NearD e := hn e (by rw [hd]; simp)
    have np : ∀ d ∈ pre, NearD d ∧ isFr d = true := fun d h => ⟨hn d (by rw [hd]; simp [h]), h1 d h⟩
    obtain ⟨c0, c1, c2, c3⟩ := told_sums_bad (w := w) hd np ne h2 fun d h => (hn d h).lf
    have sT : Sh 60 1000000 (.lst [.lst [e], .lst [e], .lst [e], .lst [e]]) := by
      have a1 : Sh 7 3100 (.lst [e]) := (Sh_lst (n := 6) (m := 3000) fun d hd => by
        simp at hd
        subst hd
        exact ne.sh).mono (by omega) (by simp)
      refine (Sh_lst (n := 7) (m := 3100) fun d hd => ?_).mono (by omega) (by simp)
      simp at hd
      subst hd
      exact a1
    obtain ⟨s1, q1, _, t1⟩ := rep_Sh sT (.inl ⟨_, rfl⟩)
    rw [hw]
    generalize wrongs rest = ws
    refine R_then (fun ρ u => w = u ∧ ρ = [some (.val .draw), some (.val (.lst ds)), some (.val (.lst (e :: ws))), some (.val (frD zeroF)), some (.val (frD oneF)), some (.val (.str s0)), none, none, none, none]) ?_ ?_
    · simp [R_lcM, R_var, iterD, noOwn, wipeE]
      refine ⟨by omega, R_lcL (g := fun d => none) ds (fun d hd => ?_) ?_⟩
      · simp [R_var, R_lift2g, peek, eq0_cons, wipeE]
      · have z : ds.filterMap (fun _ => (none : Option D)) = [] := by rw [List.filterMap_eq_nil_iff]; exact fun _ _ => rfl
        rw [z]
        simp [restE, forL]
    rintro _ _ ⟨rfl, rfl⟩
    have l1 : lf (.lst [e]) = true := lfs1 ne.lf
    have lds : lfs [.lst ds] = true := lfs1 (show lfs ds = true from lfs_of fun d hd => (hn d hd).lf)
    refine R_then (fun ρ u => w = u ∧ ρ = [some (.val .draw), some (.val (.lst ds)), some (.val (.lst (e :: ws))), some (.val (frD zeroF)), some (.val (frD oneF)), some (.val (.str s0)), none, none, some (.own (.lst [.lst [e]])), none]) ?_ ?_
    · simp [R_owv, c0, l1, lds]
    rintro _ _ ⟨rfl, rfl⟩
    refine R_then (fun ρ u => w = u ∧ ρ = [some (.val .draw), some (.val (.lst ds)), some (.val (.lst (e :: ws))), some (.val (frD zeroF)), some (.val (frD oneF)), some (.val (.str s0)), none, none, some (.own (.lst [.lst [e], .lst [e]])), none]) ?_ ?_
    · simp
      refine R_appQ rfl ?_
      simp [R_owv, c1, l1, lds, AppQ, ownL]
    rintro _ _ ⟨rfl, rfl⟩
    refine R_then (fun ρ u => w = u ∧ ρ = [some (.val .draw), some (.val (.lst ds)), some (.val (.lst (e :: ws))), some (.val (frD zeroF)), some (.val (frD oneF)), some (.val (.str s0)), none, none, some (.own (.lst [.lst [e], .lst [e], .lst [e]])), none]) ?_ ?_
    · simp
      refine R_appQ rfl ?_
      simp [R_owv, c2, l1, lds, AppQ, ownL]
    rintro _ _ ⟨rfl, rfl⟩
    refine R_then (fun ρ u => w = u ∧ ρ = [some (.val .draw), some (.val (.lst ds)), some (.val (.lst (e :: ws))), some (.val (frD zeroF)), some (.val (frD oneF)), some (.val (.str s0)), none, none, some (.own (.lst [.lst [e], .lst [e], .lst [e], .lst [e]])), none]) ?_ ?_
    · simp
      refine R_appQ rfl ?_
      simp [R_owv, c3, l1, lds, AppQ, ownL]
    rintro _ _ ⟨rfl, rfl⟩
    have ie : ixD (.lst (e :: ws)) (.int 0) = some (.sh e) := by
      have q := atI_nat (e :: ws) 0 (by simp)
      have q : L2.atI (e :: ws) 0 = some e := q
      simp [ixD, q]
    refine R_then (fun ρ u => w = u ∧ ρ = [some (.val .draw), some (.val (.lst ds)), some (.val (.lst (e :: ws))), some (.val (frD zeroF)), some (.val (frD oneF)), some (.val (.str s0)), none, none, some (.own (.lst [.lst [e], .lst [e], .lst [e], .lst [e]])), some (.own (.lst [.lst [e], .lst [e], .lst [e], .lst [e]]))]) ?_ ?_
    · have r4 : repD (.lst [.lst [e]]) (.int 4) = some (.fr (.lst [.lst [e], .lst [e], .lst [e], .lst [e]])) := rfl
      simp [R_var, R_lift2g, peek, eq0_cons, ie, r4]
    rintro _ _ ⟨rfl, rfl⟩
    simp [R_var, R_own, R_liftNg, peeks, peek, slotD, q1, q0, R_lift2g, t1, t0, outR]
end KL

end sec_K02j
section sec_K02
set_option maxRecDepth 100000
set_option maxHeartbeats 2000000
/-! K02: the plain law of fractions. -/
namespace KL
open PySem L2 FD
local instance tk02 : Tabl := { T := [] }
theorem red_one (a : Int) : frD (red a 1) = .tup [.int a, .int 1] := by
  have : Int.gcd a 1 = 1 := by simp
  simp [red, this]
theorem fine_red {a : Int} {m : Nat} (ha : a.natAbs < 2 ^ 233) (h0 : 0 < m) (hm : m ≤ 2 ^ 233) : Fine (red a m) ∧ (red a m).1.natAbs ≤ 2 ^ 233 ∧ (red a m).2 ≤ 2 ^ 233 := by
  obtain ⟨l1, l2⟩ := red_le (a := a) h0
  have hp := red_snd (a := a) h0
  have co := red_co (a := a) h0
  generalize red a m = x at l1 l2 hp co ⊢
  obtain ⟨p, q⟩ := x
  simp only at l1 l2 hp co ⊢
  have n : NearD (.tup [.int p, .int (q : Int)]) := near_pair (by omega) (by omega)
  refine ⟨⟨⟨hp, by show p.natAbs ≤ _; omega, by show q ≤ _; omega⟩, n, ?_⟩, by omega, by omega⟩
  have g : Int.gcd p (q : Int) = 1 := by simpa [Int.gcd] using co
  have h1 : (1 : Int) ≤ (q : Int) := by omega
  simp [isFr, g]
  omega
theorem R_rangeF {ρ : FD.Env} {w : W} {n : Int} {Q : List D → FD.Env → W → Prop} (h : -1000000 ≤ n ∧ n ≤ 1000000) : R (rangeM [.sh (.int n)]) ρ w Q ↔ Q ((List.range n.toNat).map fun (i : Nat) => D.int (i : Int)) ρ w := R_range rfl h
/-- drawn fractions -/
theorem law_true : ∀ ns : List Int, ns.length ≤ 63 → (∀ z ∈ ns, Builtin.Int.intBits z ≤ 1048576) → law ns = true := by
  intro ns h1 _
  refine law_run (fun ns w hns hb => ?_) ns h1
  have hm : minD [.int (ns.length : Int), .int 12] = some (.sh (.int (if (12 : Int) < ns.length then 12 else ns.length))) := rfl
  simp only [d_law]
  obtain ⟨J, hJ⟩ : ∃ J : List Nat → FD.Env → W → Prop, ∀ rest ρ w', J rest ρ w' ↔ ∃ (x2 x3 x4 x5 x6 x7 x8 x9 x10 x11 x12 : Option Slot), ρ = [some (.val (.scr ns)), some (.val .draw), x2, x3, x4, x5, x6, x7, x8, x9, x10, x11, x12, none] ∧ rest.length ≤ 16 ∧ Okb (1000 * rest.length) w' := ⟨_, fun _ _ _ => Iff.rfl⟩
  refine R_then (fun ρ w => J [] ρ w) ?_ ?_
  · simp [startE, R_var, R_liftN, peeks, peek, lenD, hm, addD]
    rw [R_rangeF (by split <;> omega)]
    refine R_forLm (fun i : Nat => D.int (i : Int)) J ?_ ?_ _ _ _ ((hJ _ _ _).mpr ⟨none, none, none, none, none, none, none, none, none, none, none, rfl, by simp; split <;> omega, hb.mono (by simp; split <;> omega)⟩)
    · intro i rest ρ w' hj
      obtain ⟨x2, x3, x4, x5, x6, x7, x8, x9, x10, x11, x12, rfl, hl, hb⟩ := (hJ _ _ _).mp hj
      simp only [List.length_cons] at hl hb
      simp only [R_gName, List.set_cons_succ, List.set_cons_zero, List.set_nil]
      clear hj
      obtain ⟨V1, hV1⟩ : ∃ V : FD.Env → W → Prop, ∀ ρ w, V ρ w ↔ ∃ a b : Int, ρ = [some (.val (.scr ns)), some (.val .draw), some (.val (.int i)), x3, x4, x5, x6, x7, x8, x9, x10, some (.val (.int a)), some (.val (.int b)), none] ∧ a.natAbs < 2 ^ 233 ∧ b.natAbs < 2 ^ 233 ∧ Okb (1000 * rest.length + 900) w := ⟨_, fun _ _ => Iff.rfl⟩
      refine R_then V1 ?_ ?_
      · simp [R_var]
        refine R_number (b := 1000 * rest.length + 950) (hb.mono (by omega)) fun a w1 ha h1 => ?_
        simp [R_var]
        refine R_number (b := 1000 * rest.length + 900) (h1.mono (by omega)) fun b w2 hb h2 => ?_
        simp
        exact (hV1 _ _).mpr ⟨a, b, rfl, ha, hb, h2⟩
      intro ρ1 w1 hv
      obtain ⟨a, b, rfl, ha, hb', hw⟩ := (hV1 _ _).mp hv
      clear hv hb
      obtain ⟨m, m0, mb, me, mc⟩ : ∃ m : Nat, 0 < m ∧ m ≤ 2 ^ 233 ∧ max2D [.int 1, .int b] = some (.sh (.int (m : Int))) ∧ (b < 1 ∨ b = (m : Int)) := by
        by_cases h : b < 1
        · refine ⟨1, by decide, by decide, ?_, .inl h⟩
          have : ¬ (b > 1) := by omega
          simp [max2D, this]
        · obtain ⟨m, rfl⟩ := Int.eq_ofNat_of_zero_le (show 0 ≤ b by omega)
          refine ⟨m, by omega, by omega, ?_, .inr rfl⟩
          simp only [max2D]
          congr 3
          split <;> omega
      have a2 : a.natAbs < 2 ^ 2000 := Nat.lt_of_lt_of_le ha (by decide)
      have m2 : m < 2 ^ 2000 := Nat.lt_of_le_of_lt mb (by decide)
      have ld := fun w => law_divided_eq (w := w) (a := a) m0 (pow_mono' (m := 400000) (by decide) a2) (pow_mono' (m := 8000) (by decide) m2)
      obtain ⟨fine, bt, bb⟩ := fine_red ha m0 mb
      obtain ⟨x, hx⟩ : ∃ x, x = red a m := ⟨_, rfl⟩
      rw [← hx] at fine bt bb ld
      -- what is due
      obtain ⟨V2, hV2⟩ : ∃ V : FD.Env → W → Prop, ∀ ρ w, V ρ w ↔ w1 = w ∧ ∃ (sl : Slot) (r : RV) (dd : D), ρ = [some (.val (.scr ns)), some (.val .draw), some (.val (.int i)), some sl, x4, x5, x6, x7, x8, x9, x10, some (.val (.int a)), some (.val (.int b)), none] ∧ ((sl = .own dd ∧ r = .fr dd) ∨ (sl = .val dd ∧ r = .sh dd)) ∧ lf dd = true ∧ Sh 60 1000000 dd ∧ ((∃ ds, dd = .lst ds) ∨ ∃ ds, dd = .tup ds) ∧ D_law_told [.lam 8 [.int a, .int b]] w1 = some (r, w1) ∧ D_law_told [.lam 9 [.int b, .int a]] w1 = some (r, w1) := ⟨_, fun _ _ => Iff.rfl⟩
      refine R_then V2 ?_ ?_
      · by_cases h : b < 1
        · have l : ltD (.int b) (.int 1) = some (.sh (.bl true)) := by simp [ltD, ordD, h]
          obtain ⟨t1, t2⟩ := told_frac_bad (w := w1) (a := a) h
          simp [R_var, R_lift2g, peek, l]
          refine (hV2 _ _).mpr ⟨rfl, .own (.lst [.int b]), .fr (.lst [.int b]), .lst [.int b], rfl, .inl ⟨rfl, rfl⟩, rfl, ?_, .inl ⟨_, rfl⟩, t1, t2⟩
          refine (Sh_lst (n := 0) (m := 600) fun d hd => ?_).mono (by omega) (by simp)
          simp at hd
          subst hd
          exact Sh_int (Nat.lt_of_lt_of_le hb' (by decide))
        · have l : ltD (.int b) (.int 1) = some (.sh (.bl false)) := by simp [ltD, ordD, h]
          obtain rfl : b = (m : Int) := by
            rcases mc with mc | mc
            · exact absurd mc h
            · exact mc
          obtain ⟨t1, t2⟩ := told_fraction (w := w1) m0 a2 m2
          rw [← hx] at t1 t2
          simp [R_var, R_lift2g, R_liftNg, peeks, peek, l, me, ld]
          refine (hV2 _ _).mpr ⟨rfl, .val (.tup [frD x]), .sh (.tup [frD x]), .tup [frD x], rfl, .inr ⟨rfl, rfl⟩, rfl, ?_, .inr ⟨_, rfl⟩, t1, t2⟩
          refine (Sh_tup (n := 6) (m := 3000) fun d hd => ?_).mono (by omega) (by simp)
          simp at hd
          subst hd
          exact fine.n.sh
      intro ρ2 w2 hv
      obtain ⟨rfl, sl, r, dd, rfl, hsr, ldd, sdd, kdd, t8, t9⟩ := (hV2 _ _).mp hv
      clear hv
      obtain ⟨sq, q1, q2, q3⟩ := rep_Sh sdd kdd
      have l8 : lfs [D.int a, D.int b] = true := rfl
      have l9 : lfs [D.int b, D.int a] = true := rfl
      obtain ⟨V3, hV3⟩ : ∃ V : FD.Env → W → Prop, ∀ ρ w, V ρ w ↔ w1 = w ∧ ∃ (x3 : Option Slot), ρ = [some (.val (.scr ns)), some (.val .draw), some (.val (.int i)), x3, x4, x5, x6, x7, x8, x9, x10, some (.val (.int a)), some (.val (.int b)), none] := ⟨_, fun _ _ => Iff.rfl⟩
      refine R_then (fun ρ w => w1 = w ∧ ρ = [some (.val (.scr ns)), some (.val .draw), some (.val (.int i)), some sl, x4, x5, x6, x7, x8, x9, x10, some (.val (.int a)), some (.val (.int b)), none]) ?_ ?_
      · rcases hsr with ⟨rfl, rfl⟩ | ⟨rfl, rfl⟩ <;> simp [R_owv, l8, t8, ldd, R_liftNg, peeks, peek, slotD, q1, q2, R_lift2g, R_own, R_var]
      rintro _ _ ⟨rfl, rfl⟩
      have f1 := fun w => fraction_ok (w := w) (a := a) (n := 1) (by decide) a2 (by decide)
      have f2 : neD (.tup [.int a, .int 1]) (.tup [.int a, .int 1]) = some (.sh (.bl false)) := by
        have nb : NB 64 (.tup [.int a, .int 1]) := fun d hd => by
          simp at hd
          rcases hd with rfl | rfl <;> exact NB_int
        rw [neD_NB nb nb]
        simp
      rw [red_one] at f1
      simp only [Int.natCast_one] at f1
      refine R_then V3 ?_ ?_
      · rcases hsr with ⟨rfl, rfl⟩ | ⟨rfl, rfl⟩ <;> simp [R_owv, l9, t9, ldd, R_liftNg, peeks, peek, slotD, q1, q2, R_lift2g, R_own, R_var, f1, f2] <;> exact (hV3 _ _).mpr ⟨rfl, _, rfl⟩
      clear hsr ldd sdd kdd t8 t9 q1 q2 q3 l8 l9
      intro ρ3 w3 hv
      obtain ⟨rfl, x3, rfl⟩ := (hV3 _ _).mp hv
      clear hv
      -- values that are no numbers
      obtain ⟨V4, hV4⟩ : ∃ V : FD.Env → W → Prop, ∀ ρ w, V ρ w ↔ ∃ (d : D) (T : String), ρ = [some (.val (.scr ns)), some (.val .draw), some (.val (.int i)), x3, some (.val d), x5, x6, x7, x8, x9, x10, some (.val (.int a)), some (.val (.int b)), none] ∧ tyB d = some T ∧ T ≠ "int" ∧ lf d = true ∧ Sh 6 3000 d ∧ Okb (1000 * rest.length + 890) w := ⟨_, fun _ _ => Iff.rfl⟩
      refine R_then V4 ?_ ?_
      · simp [R_var]
        refine R_pick (b := 1000 * rest.length + 890) (hw.mono (by omega)) (by simp) (by simp) fun d w2 hd h2 => ?_
        simp
        simp at hd
        rcases hd with rfl | rfl | rfl | rfl | rfl | rfl | rfl <;> exact (hV4 _ _).mpr ⟨_, _, rfl, rfl, by decide, rfl, Sh_of (by decide +kernel), h2⟩
      intro ρ4 w4 hv
      obtain ⟨d, T, rfl, ty, hT, ldd, sdd, hw⟩ := (hV4 _ _).mp hv
      clear hv
      obtain ⟨t4, t5⟩ := told_odd (w := w4) ty hT ldd
      have lfd := lfs1 ldd
      have lfl : lf (.lst [d]) = true := lfd
      refine R_then (fun ρ w => w4 = w ∧ ρ = [some (.val (.scr ns)), some (.val .draw), some (.val (.int i)), x3, some (.val d), some (.own (.lst [.lst [d]])), x6, x7, x8, x9, x10, some (.val (.int a)), some (.val (.int b)), none]) ?_ ?_
      · simp [R_owv, t4, lfd, lfl]
      rintro _ _ ⟨rfl, rfl⟩
      refine R_then (fun ρ w => w4 = w ∧ ρ = [some (.val (.scr ns)), some (.val .draw), some (.val (.int i)), x3, some (.val d), some (.own (.lst [.lst [d], .lst [d]])), x6, x7, x8, x9, x10, some (.val (.int a)), some (.val (.int b)), none]) ?_ ?_
      · simp
        refine R_appQ rfl ?_
        simp [R_owv, t5, lfd, lfl, AppQ, ownL]
      rintro _ _ ⟨rfl, rfl⟩
      have two : ∀ e : D, Sh 6 3000 e → ∃ s : Str, orN reprS reprQ [.lst [.lst [e], .lst [e]]] = some (.sh (.str s)) ∧ neD (.str s) (.str s) = some (.sh (.bl false)) := fun e he => by
        have s1 : Sh 7 3100 (.lst [e]) := (Sh_lst (n := 6) (m := 3000) fun d hd => by
          simp at hd
          subst hd
          exact he).mono (by omega) (by simp)
        have s2 : Sh 60 1000000 (.lst [.lst [e], .lst [e]]) := (Sh_lst (n := 7) (m := 3100) fun d hd => by
          simp at hd
          subst hd
          exact s1).mono (by omega) (by simp)
        obtain ⟨s, e1, e2, _⟩ := rep_Sh s2 (.inl ⟨_, rfl⟩)
        exact ⟨s, e1, e2⟩
      have rp2 : ∀ e : D, repD (.lst [.lst [e]]) (.int 2) = some (.fr (.lst [.lst [e], .lst [e]])) := fun _ => rfl
      refine R_then (fun ρ w => w4 = w ∧ ρ = [some (.val (.scr ns)), some (.val .draw), some (.val (.int i)), x3, some (.val d), some (.own (.lst [.lst [d], .lst [d]])), x6, x7, x8, x9, x10, some (.val (.int a)), some (.val (.int b)), none]) ?_ ?_
      · obtain ⟨s, e1, e2⟩ := two d sdd
        simp [R_own, R_var, R_liftNg, peeks, peek, slotD, R_lift2g, rp2, e1, e2]
      rintro _ _ ⟨rfl, rfl⟩
      -- a fraction, and a value near to it
      refine R_then (fun ρ w => w4 = w ∧ ρ = [some (.val (.scr ns)), some (.val .draw), some (.val (.int i)), x3, some (.val d), some (.own (.lst [.lst [d], .lst [d]])), some (.val (frD x)), x7, x8, x9, x10, some (.val (.int a)), some (.val (.int b)), none]) ?_ ?_
      · simp [R_var, R_liftNg, peeks, peek, me, ld]
      rintro _ _ ⟨rfl, rfl⟩
      obtain ⟨V5, hV5⟩ : ∃ V : FD.Env → W → Prop, ∀ ρ w, V ρ w ↔ ∃ (e : D), ρ = [some (.val (.scr ns)), some (.val .draw), some (.val (.int i)), x3, some (.val d), some (.own (.lst [.lst [d], .lst [d]])), some (.val (frD x)), some (.val e), x8, x9, x10, some (.val (.int a)), some (.val (.int b)), none] ∧ NearD e ∧ Okb (1000 * rest.length + 880) w := ⟨_, fun _ _ => Iff.rfl⟩
      refine R_then V5 ?_ ?_
      · simp [R_var]
        refine R_near (b := 1000 * rest.length + 880) fine.b bt bb (hw.mono (by omega)) fun e w2 he h2 => ?_
        simp
        exact (hV5 _ _).mpr ⟨e, rfl, he, h2⟩
      clear t4 t5 hw
      intro ρ5 w5 hv
      obtain ⟨e, rfl, ne, hw⟩ := (hV5 _ _).mp hv
      clear hv
      refine R_then (fun ρ w => w5 = w ∧ ρ = [some (.val (.scr ns)), some (.val .draw), some (.val (.int i)), x3, some (.val d), some (.own (.lst [.lst [d], .lst [d]])), some (.val (frD x)), some (.val e), x8, x9, x10, some (.val (.int a)), some (.val (.int b)), none]) ?_ ?_
      · have pf := fine.n.isf
        rw [fine.i] at pf
        have s2 : Sh 60 1000000 (.lst [.bl (isFr e), .bl true]) := (Sh_lst (n := 0) (m := 10) fun d hd => by
          simp at hd
          rcases hd with rfl | rfl <;> exact Sh_bl).mono (by omega) (by simp)
        obtain ⟨s, e1, e2, _⟩ := rep_Sh s2 (.inl ⟨_, rfl⟩)
        simp [R_var, ne.isf, ne.gd, pickL, pf, R_liftNg, peeks, peek, R_lift2g, e1, e2]
      rintro _ _ ⟨rfl, rfl⟩
      -- fractions
      obtain ⟨V6, hV6⟩ : ∃ V : FD.Env → W → Prop, ∀ ρ w, V ρ w ↔ ∃ (xs : List (Int × Nat)), ρ = [some (.val (.scr ns)), some (.val .draw), some (.val (.int i)), x3, some (.val d), some (.own (.lst [.lst [d], .lst [d]])), some (.val (frD x)), some (.val e), some (.own (.lst (xs.map frD))), x9, x10, some (.val (.int a)), some (.val (.int b)), none] ∧ xs.length ≤ 8 ∧ (∀ x ∈ xs, Fine x ∧ x.1.natAbs ≤ 2 ^ 233 ∧ x.2 ≤ 2 ^ 233) ∧ Okb (1000 * rest.length + 780) w := ⟨_, fun _ _ => Iff.rfl⟩
      refine R_then V6 ?_ ?_
      · simp [R_lcM, R_var]
        refine R_take (b := 1000 * rest.length + 870) (hw.mono (by omega)) (by decide) (by decide) fun k w2 k0 k1 h2 => ?_
        rw [R_rangeF (by omega)]
        refine ⟨⟨rfl, by simp; omega⟩, ?_⟩
        refine R_lcInv (fun i : Nat => D.int (i : Int)) (fun l acc w => ∃ xs : List (Int × Nat), acc = xs.map frD ∧ xs.length + l.length ≤ 8 ∧ (∀ x ∈ xs, Fine x ∧ x.1.natAbs ≤ 2 ^ 233 ∧ x.2 ≤ 2 ^ 233) ∧ Okb (1000 * rest.length + 780 + 10 * l.length) w) ?_ ?_ _ ⟨[], rfl, by simp; omega, (fun _ h => nomatch h), h2.mono (by simp only [List.length_range]; omega)⟩
        · rintro j l acc w ⟨xs, rfl, hl, hx, hw⟩
          simp only [List.length_cons] at hl hw
          simp [wipeE, R_var]
          refine R_number (b := 1000 * rest.length + 780 + 10 * l.length + 5) (hw.mono (by omega)) fun p w2 hp h2 => ?_
          simp [R_var]
          refine R_number (b := 1000 * rest.length + 780 + 10 * l.length) (h2.mono (by omega)) fun q w3 hq h3 => ?_
          have q0 : 0 < 1 + q.natAbs := by omega
          have qb : 1 + q.natAbs ≤ 2 ^ 233 := by omega
          have c := fun w => law_divided_eq (w := w) (a := p) q0 (Nat.lt_of_lt_of_le hp (Nat.pow_le_pow_right (by decide) (by decide))) (Nat.lt_of_le_of_lt qb (Nat.pow_lt_pow_right (by decide) (by decide)))
          have ec : ((1 + q.natAbs : Nat) : Int) = 1 + (q.natAbs : Int) := by omega
          rw [ec] at c
          simp only [R_liftNg, peeks, peek]
          refine ⟨[.int q], rfl, .sh (.int (q.natAbs : Int)), absD_nat q, ?_⟩
          simp [R_lift2g, peek, addD]
          rw [c]
          simp [wipeE]
          refine ⟨xs ++ [red p (1 + q.natAbs)], by simp, by simp; omega, ?_, h3⟩
          have key : ∀ z ∈ xs ++ [red p (1 + q.natAbs)], Fine z ∧ z.1.natAbs ≤ 2 ^ 233 ∧ z.2 ≤ 2 ^ 233 := fun z hz => ?_
          · exact fun a b h => key (a, b) h
          rcases List.mem_append.mp hz with hz | hz
          · exact hx z hz
          · simp at hz
            subst hz
            exact fine_red hp q0 qb
        · rintro acc w ⟨xs, rfl, hl, hx, hw⟩
          simp [restE, wipeE]
          exact (hV6 _ _).mpr ⟨xs, rfl, by simpa using hl, hx, hw.mono (by simp)⟩
      clear hw
      intro ρ6 w6 hv
      obtain ⟨xs, rfl, xl, hx, hw⟩ := (hV6 _ _).mp hv
      clear hv
      have nx : ∀ d ∈ xs.map frD, NearD d := fun d hd => by
        obtain ⟨z, hz, rfl⟩ := List.mem_map.mp hd
        exact (hx z hz).1.n
      refine R_then (fun ρ w => w6 = w ∧ ρ = [some (.val (.scr ns)), some (.val .draw), some (.val (.int i)), x3, some (.val d), some (.own (.lst [.lst [d], .lst [d]])), some (.val (frD x)), some (.val e), some (.val (.lst (xs.map frD))), x9, x10, some (.val (.int a)), some (.val (.int b)), none]) ?_ ?_
      · have lr := fun w => lists_right (w := w) nx (by simpa using xl)
        have s0 := fun w => added_ok (w := w) (d := .lst []) (xs := []) (.inl rfl) (fun _ h => nomatch h) (by decide)
        have p0 := fun w => multiplied_ok (w := w) (d := .tup []) (xs := []) (.inr rfl) (fun _ h => nomatch h) (by decide)
        have z1 : frD (sumF []) = .tup [.int 0, .int 1] := rfl
        have z2 : frD (prodF []) = .tup [.int 1, .int 1] := rfl
        rw [z1] at s0
        rw [z2] at p0
        have nb : ∀ i j : Int, neD (.tup [.int i, .int j]) (.tup [.int i, .int j]) = some (.sh (.bl false)) := fun i j => by
          have nb : NB 64 (.tup [.int i, .int j]) := fun d hd => by
            simp at hd
            rcases hd with rfl | rfl <;> exact NB_int
          rw [neD_NB nb nb]
          simp
        simp [R_var, R_own, R_escow, lr, s0, p0, R_lift2g, peek, nb]
      rintro _ _ ⟨rfl, rfl⟩
      -- some of them bent
      obtain ⟨V7, hV7⟩ : ∃ V : FD.Env → W → Prop, ∀ ρ w, V ρ w ↔ ∃ (ds : List D), ρ = [some (.val (.scr ns)), some (.val .draw), some (.val (.int i)), x3, some (.val d), some (.own (.lst [.lst [d], .lst [d]])), some (.val (frD x)), some (.val e), some (.val (.lst (xs.map frD))), some (.own (.lst ds)), x10, some (.val (.int a)), some (.val (.int b)), none] ∧ ds.length ≤ 8 ∧ (∀ d ∈ ds, NearD d) ∧ Okb (1000 * rest.length + 700) w := ⟨_, fun _ _ => Iff.rfl⟩
      refine R_then V7 ?_ ?_
      · simp [R_lcM, R_var, iterD]
        refine ⟨⟨rfl, by omega⟩, ?_⟩
        refine R_lcInv frD (fun l acc w => acc.length + l.length ≤ 8 ∧ (∀ x ∈ l, Fine x ∧ x.1.natAbs ≤ 2 ^ 233 ∧ x.2 ≤ 2 ^ 233) ∧ (∀ d ∈ acc, NearD d) ∧ Okb (1000 * rest.length + 700 + 10 * l.length) w) ?_ ?_ _ ⟨by simpa using xl, hx, (fun _ h => nomatch h), hw.mono (by omega)⟩
        · rintro z l acc w ⟨hl, hx, hn, hw⟩
          simp only [List.length_cons] at hl hw
          obtain ⟨fz, tz, bz⟩ := hx z List.mem_cons_self
          have hx' := fun y hy => hx y (List.mem_cons_of_mem _ hy)
          have add : ∀ d : D, NearD d → ∀ d' ∈ acc ++ [d], NearD d' := fun d hd d' h => by
            rcases List.mem_append.mp h with h | h
            · exact hn d' h
            · simp at h
              subst h
              exact hd
          simp [wipeE, R_var]
          refine R_take (b := 1000 * rest.length + 700 + 10 * l.length + 5) (hw.mono (by omega)) (by decide) (by decide) fun k w2 k0 k1 h2 => ?_
          simp [eqD_int]
          by_cases hk : k = 0
          · simp [hk, R_var]
            refine R_near (b := 1000 * rest.length + 700 + 10 * l.length) fz.b tz bz (h2.mono (by omega)) fun d' w3 hd h3 => ?_
            simp
            refine ⟨by omega, ?_, ?_, h3⟩
            · exact fun a b hab => hx' (a, b) hab
            · intro d'' h
              exact add d' hd d'' (by simpa [eq_comm] using h)
          · simp [hk, R_var]
            refine ⟨by omega, ?_, ?_, h2.mono (by omega)⟩
            · exact fun a b hab => hx' (a, b) hab
            · intro d'' h
              exact add _ fz.n d'' (by simpa [eq_comm] using h)
        · rintro acc w ⟨hl, _, hn, hw⟩
          simp [restE, wipeE]
          exact (hV7 _ _).mpr ⟨acc, rfl, by simpa using hl, hn, hw.mono (by simp)⟩
      clear hw
      intro ρ7 w7 hv
      obtain ⟨ds, rfl, dl, hd, hw⟩ := (hV7 _ _).mp hv
      clear hv
      refine R_then (fun ρ w => w7 = w ∧ ρ = [some (.val (.scr ns)), some (.val .draw), some (.val (.int i)), x3, some (.val d), some (.own (.lst [.lst [d], .lst [d]])), some (.val (frD x)), some (.val e), some (.val (.lst (xs.map frD))), some (.val (.lst ds)), x10, some (.val (.int a)), some (.val (.int b)), none]) ?_ ?_
      · have lr := fun w => lists_right (w := w) hd dl
        simp [R_var, R_own, R_escow, lr]
      rintro _ _ ⟨rfl, rfl⟩
      -- values that are no lists
      obtain ⟨V8, hV8⟩ : ∃ V : FD.Env → W → Prop, ∀ ρ w, V ρ w ↔ ∃ (g : D) (T : String), ρ = [some (.val (.scr ns)), some (.val .draw), some (.val (.int i)), x3, some (.val d), some (.own (.lst [.lst [d], .lst [d]])), some (.val (frD x)), some (.val e), some (.val (.lst (xs.map frD))), some (.val (.lst ds)), some (.val g), some (.val (.int a)), some (.val (.int b)), none] ∧ tyB g = some T ∧ T ≠ "list" ∧ T ≠ "tuple" ∧ lf g = true ∧ Sh 6 3000 g ∧ Okb (1000 * rest.length) w := ⟨_, fun _ _ => Iff.rfl⟩
      refine R_then V8 ?_ ?_
      · simp [R_var]
        refine R_pick (b := 1000 * rest.length) (hw.mono (by omega)) (by simp) (by simp) fun g w2 hd h2 => ?_
        simp
        simp at hd
        rcases hd with rfl | rfl | rfl | rfl | rfl | rfl | rfl <;> exact (hV8 _ _).mpr ⟨_, _, rfl, rfl, by decide, by decide, rfl, Sh_of (by decide +kernel), h2⟩
      clear hw
      intro ρ8 w8 hv
      obtain ⟨g, T', rfl, ty', hT1, hT2, lg, sg, hw⟩ := (hV8 _ _).mp hv
      clear hv
      obtain ⟨t6, t7⟩ := told_none (w := w8) ty' hT1 hT2 lg
      have lfg := lfs1 lg
      have lgl : lf (.lst [g]) = true := lfg
      refine R_then (fun ρ w => w8 = w ∧ ρ = [some (.val (.scr ns)), some (.val .draw), some (.val (.int i)), x3, some (.val d), some (.own (.lst [.lst [g]])), some (.val (frD x)), some (.val e), some (.val (.lst (xs.map frD))), some (.val (.lst ds)), some (.val g), some (.val (.int a)), some (.val (.int b)), none]) ?_ ?_
      · simp [R_owv, t6, lfg, lgl]
      rintro _ _ ⟨rfl, rfl⟩
      refine R_then (fun ρ w => w8 = w ∧ ρ = [some (.val (.scr ns)), some (.val .draw), some (.val (.int i)), x3, some (.val d), some (.own (.lst [.lst [g], .lst [g]])), some (.val (frD x)), some (.val e), some (.val (.lst (xs.map frD))), some (.val (.lst ds)), some (.val g), some (.val (.int a)), some (.val (.int b)), none]) ?_ ?_
      · simp
        refine R_appQ rfl ?_
        simp [R_owv, t7, lfg, lgl, AppQ, ownL]
      rintro _ _ ⟨rfl, rfl⟩
      obtain ⟨s, e1, e2⟩ := two g sg
      simp [R_own, R_var, R_liftNg, peeks, peek, slotD, R_lift2g, rp2, e1, e2]
      exact (hJ _ _ _).mpr ⟨_, _, _, _, _, _, _, _, _, _, _, rfl, by omega, hw⟩
    · intro ρ w h
      exact ⟨rfl, h⟩
  intro ρ w h
  simp
end KL

end sec_K02
section sec_End
open PySem PySem.W PyProof.Rows
set_option maxRecDepth 100000 in
set_option maxHeartbeats 0 in
theorem PySem.Challenge.cw_meanways_k02_fractions_holds : PySem.Challenge.rw_meanways_k02_fractions.Holds := by
  w_on; o_law; k_head; (case hw => w_witness2)
  k_fill
  refine LG.walkS (l := PySem.Challenge.rw_meanways_k02_fractions) (n := 63) (k := 9) (x := "_law_script") rfl (by decide) rfl ⟨rfl, by decide, by decide⟩ (fun w h Y => by first | exact PySem.W.kIn_of Y | exact PySem.W.km_in_of Y) (by kernel_rfl) ?F
  case F =>
    intro w mg fa h Y KX G hmg
    refine' KL.asm KX G hmg ?aC_MeanError ?aC_BadNumber ?aC_NoTable ?lk_BadNumber ?ki_rv_BadNumber ?xsa_BadNumber ?xex_BadNumber ?xty_BadNumber ?xkc_BadNumber ?xga_BadNumber ?xgt_BadNumber ?xhd_BadNumber ?xha_BadNumber ?xmr_BadNumber ?xno_BadNumber ?a_BadNumber_init ?xti_BadNumber_init ?l_BadNumber_init ?c_BadNumber_init ?k_BadNumber_init ?kk_em_MeanError_BadNumber ?kk_xi_BadNumber_BadNumber ?kk_xi_NoTable_BadNumber ?hn0 ?ht0 ?ki_NoTable_NoneType ?ki_NoTable_bool ?ki_NoTable_int ?ki_NoTable_str ?ki_NoTable_tuple ?ki_NoTable_list ?ki_NoTable_dict ?ki_BadNumber_NoneType ?ki_BadNumber_bool ?ki_BadNumber_int ?ki_BadNumber_str ?ki_BadNumber_tuple ?ki_BadNumber_list ?ki_BadNumber_dict ?z_abs ?z_bool ?z_int ?z_isinstance ?z_len ?z_list ?z_max ?z_min ?z_range ?z_repr ?z_str ?z_tuple ?a_law_begun ?l_law_begun ?c_law_begun ?k_law_begun ?a_divisor_of ?l_divisor_of ?c_divisor_of ?k_divisor_of ?a_divided ?l_divided ?c_divided ?k_divided ?a_plus ?l_plus ?c_plus ?k_plus ?a_is_number ?l_is_number ?c_is_number ?k_is_number ?a_is_fraction ?l_is_fraction ?c_is_fraction ?k_is_fraction ?a_need_fractions ?l_need_fractions ?c_need_fractions ?k_need_fractions ?a_added ?l_added ?c_added ?k_added ?a_times ?l_times ?c_times ?k_times ?a_multiplied ?l_multiplied ?c_multiplied ?k_multiplied ?a_fraction ?l_fraction ?c_fraction ?k_fraction ?lT_fraction ?dT_fraction ?a_law_told ?l_law_told ?c_law_told ?k_law_told ?a_law_mixed ?l_law_mixed ?c_law_mixed ?k_law_mixed ?a_law_take ?l_law_take ?c_law_take ?k_law_take ?a_law_pick ?l_law_pick ?c_law_pick ?k_law_pick ?a_law_divided ?l_law_divided ?c_law_divided ?k_law_divided ?a_law_by ?l_law_by ?c_law_by ?k_law_by ?a_law_plus ?l_law_plus ?c_law_plus ?k_law_plus ?a_law_is_good ?l_law_is_good ?c_law_is_good ?k_law_is_good ?a_law_lists_right ?l_law_lists_right ?c_law_lists_right ?k_law_lists_right ?a_law_odd ?l_law_odd ?c_law_odd ?k_law_odd ?a_law_near ?l_law_near ?c_law_near ?k_law_near ?a_law_number ?l_law_number ?c_law_number ?k_law_number ?a_law ?l_law ?c_law ?k_law (PySem.W.km_tabs_of Y) ?mT_law_lists_right ?ch_law_lists_right ?nT_law_lists_right ?mT_law ?ch_law ?nT_law ?ne_law_lists_right_law ?ne_law_law_lists_right KL.law_true
    (case aC_MeanError => k_is)
    (case aC_BadNumber => k_is)
    (case aC_NoTable => k_is)
    (case lk_BadNumber => k_is)
    (case ki_rv_BadNumber => kernel_rfl)
    (case xsa_BadNumber => k_is)
    (case xex_BadNumber => k_is)
    (case xty_BadNumber => k_is)
    (case xkc_BadNumber => k_is)
    (case xga_BadNumber => k_is)
    (case xgt_BadNumber => k_is)
    (case xhd_BadNumber => k_is)
    (case xha_BadNumber => k_is)
    (case xmr_BadNumber => k_is)
    (case xno_BadNumber => k_is)
    (case a_BadNumber_init => k_is)
    (case xti_BadNumber_init => k_is)
    (case l_BadNumber_init => k_is)
    (case c_BadNumber_init => k_is)
    (case k_BadNumber_init => k_is)
    (case kk_em_MeanError_BadNumber => kernel_rfl)
    (case kk_xi_BadNumber_BadNumber => kernel_rfl)
    (case kk_xi_NoTable_BadNumber => kernel_rfl)
    (case hn0 => k_is)
    (case ht0 => k_is)
    (case ki_NoTable_NoneType => kernel_rfl)
    (case ki_NoTable_bool => kernel_rfl)
    (case ki_NoTable_int => kernel_rfl)
    (case ki_NoTable_str => kernel_rfl)
    (case ki_NoTable_tuple => kernel_rfl)
    (case ki_NoTable_list => kernel_rfl)
    (case ki_NoTable_dict => kernel_rfl)
    (case ki_BadNumber_NoneType => kernel_rfl)
    (case ki_BadNumber_bool => kernel_rfl)
    (case ki_BadNumber_int => kernel_rfl)
    (case ki_BadNumber_str => kernel_rfl)
    (case ki_BadNumber_tuple => kernel_rfl)
    (case ki_BadNumber_list => kernel_rfl)
    (case ki_BadNumber_dict => kernel_rfl)
    (case z_abs => k_is)
    (case z_bool => k_is)
    (case z_int => k_is)
    (case z_isinstance => k_is)
    (case z_len => k_is)
    (case z_list => k_is)
    (case z_max => k_is)
    (case z_min => k_is)
    (case z_range => k_is)
    (case z_repr => k_is)
    (case z_str => k_is)
    (case z_tuple => k_is)
    (case a_law_begun => k_is)
    (case l_law_begun => k_is)
    (case c_law_begun => k_is)
    (case k_law_begun => k_is)
    (case a_divisor_of => k_is)
    (case l_divisor_of => k_is)
    (case c_divisor_of => k_is)
    (case k_divisor_of => k_is)
    (case a_divided => k_is)
    (case l_divided => k_is)
    (case c_divided => k_is)
    (case k_divided => k_is)
    (case a_plus => k_is)
    (case l_plus => k_is)
    (case c_plus => k_is)
    (case k_plus => k_is)
    (case a_is_number => k_is)
    (case l_is_number => k_is)
    (case c_is_number => k_is)
    (case k_is_number => k_is)
    (case a_is_fraction => k_is)
    (case l_is_fraction => k_is)
    (case c_is_fraction => k_is)
    (case k_is_fraction => k_is)
    (case a_need_fractions => k_is)
    (case l_need_fractions => k_is)
    (case c_need_fractions => k_is)
    (case k_need_fractions => k_is)
    (case a_added => k_is)
    (case l_added => k_is)
    (case c_added => k_is)
    (case k_added => k_is)
    (case a_times => k_is)
    (case l_times => k_is)
    (case c_times => k_is)
    (case k_times => k_is)
    (case a_multiplied => k_is)
    (case l_multiplied => k_is)
    (case c_multiplied => k_is)
    (case k_multiplied => k_is)
    (case a_fraction => k_is)
    (case l_fraction => k_is)
    (case c_fraction => k_is)
    (case k_fraction => k_is)
    (case lT_fraction => k_is)
    (case dT_fraction => exact rfl)
    (case a_law_told => k_is)
    (case l_law_told => k_is)
    (case c_law_told => k_is)
    (case k_law_told => k_is)
    (case a_law_mixed => k_is)
    (case l_law_mixed => k_is)
    (case c_law_mixed => k_is)
    (case k_law_mixed => k_is)
    (case a_law_take => k_is)
    (case l_law_take => k_is)
    (case c_law_take => k_is)
    (case k_law_take => k_is)
    (case a_law_pick => k_is)
    (case l_law_pick => k_is)
    (case c_law_pick => k_is)
    (case k_law_pick => k_is)
    (case a_law_divided => k_is)
    (case l_law_divided => k_is)
    (case c_law_divided => k_is)
    (case k_law_divided => k_is)
    (case a_law_by => k_is)
    (case l_law_by => k_is)
    (case c_law_by => k_is)
    (case k_law_by => k_is)
    (case a_law_plus => k_is)
    (case l_law_plus => k_is)
    (case c_law_plus => k_is)
    (case k_law_plus => k_is)
    (case a_law_is_good => k_is)
    (case l_law_is_good => k_is)
    (case c_law_is_good => k_is)
    (case k_law_is_good => k_is)
    (case a_law_lists_right => k_is)
    (case l_law_lists_right => k_is)
    (case c_law_lists_right => k_is)
    (case k_law_lists_right => k_is)
    (case a_law_odd => k_is)
    (case l_law_odd => k_is)
    (case c_law_odd => k_is)
    (case k_law_odd => k_is)
    (case a_law_near => k_is)
    (case l_law_near => k_is)
    (case c_law_near => k_is)
    (case k_law_near => k_is)
    (case a_law_number => k_is)
    (case l_law_number => k_is)
    (case c_law_number => k_is)
    (case k_law_number => k_is)
    (case a_law => k_is)
    (case l_law => k_is)
    (case c_law => k_is)
    (case k_law => k_is)
    (case mT_law_lists_right => exact rfl)
    (case ch_law_lists_right => kernel_rfl)
    (case nT_law_lists_right => kernel_rfl)
    (case mT_law => exact rfl)
    (case ch_law => kernel_rfl)
    (case nT_law => kernel_rfl)
    (case ne_law_lists_right_law => decide)
    (case ne_law_law_lists_right => decide)

end sec_End
