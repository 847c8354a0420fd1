import PyProof.Rows.All
import Wide.All
import OpenK.AllK
import Wide.FinOn
import HandS.ForMost
import HandS.Evl
import HandS.Lambda
import HandS.ExcValue
import HandS.IsInst
import HandS.TupAny
import HandS.Wide
import HandS.Property
import HandS.Defaults
import HandS.Style
import HandS.Set
import HandS.SetFor
import HandS.SetTxt0
import HandS.TupSets
import PyProof.Rows.SortShellAny
import PyProof.CollectStr
import HandS.SortKw
import HandS.List
import KE.SortKeyHeap
import HandS.Text
import HandS.SlotsOwn
import OpenK.KMake
import PyProof.InstEq
import HandS.Iter
import KE.GoesMore
import PyProof.EnumMake
import HandS.Dict
import PyProof.ReprRoads
import PyProof.ListStr
import HandS.Words
import HandS.EndTab
import HandS.Replace
import HandS.TupLen
import HandS.DictComp
import PyProof.DictFindH
import HandS.Conv
import KE.KDictCopyH
import HandS.Star
import HandS.Deep
import HandS.Flow
import PyProof.CallFns
import KE.SortData
import HandS.NoneIn
import PyProof.CallStr
import KE.KDictDisplayH
import HandS.ExcOwn
import HandS.ExcInit
import KE.KExcIs
import HandS.ExcField
import HandS.ExcIs
import PyProof.Rows.StrStep
import HandS.MakeKw
import HandS.OwnEq
import PyProof.NeKinds
import PyProof.ReprLen
import PySem.Challenge.RW_meanways_k03_schemes_made
set_option Elab.async false
set_option linter.all false
section sec_FD1
set_option maxRecDepth 100000
set_option maxHeartbeats 5000000
/-! FD1: plain data D, how the abstract heap holds it (Rep), the state of a running def as plain data (SR), the judgements FE, FT, FA, FS. -/
namespace FD
open PySem L2

structure Ct where
  K : PySem.W.Frag
  mg : Str → Option Value
/-- where the draws' dict, its list of wide numbers and its list of cells stand -/
structure Dr where
  at_ : Option (Addr × Addr × Addr)
  cl : List Int
  /-- where the objects of the store stand -/
  ob : List Addr
  /-- values that are only handed on -/
  tok : Nat → Option V
structure DA where
  d : Option Addr
  ob : List Addr
  tok : Nat → Option V
def Dr.da (d : Dr) : DA := ⟨d.at_.map (·.1), d.ob, d.tok⟩
/-- the tables of the code objects of the defs that make lambdas -/
structure LamSyn where
  q : Str
  params : Arguments
  body : Expr
  scope : Scope
  N : List Str
class Tabl where
  T : List (Addr × Str)
  L : Nat → Option LamSyn := fun _ => none
variable [Tabl]
def Dr.ds (d : Dr) : List Addr := match d.at_ with
  | some t => [t.1, t.2.1, t.2.2]
  | none => []
def Dr.as (d : Dr) : List Addr := d.ds ++ (Tabl.T.map (·.1) ++ d.ob)
theorem Dr.tab {d : Dr} {p : Addr × Str} (h : p ∈ Tabl.T) : p.1 ∈ d.as := List.mem_append_right _ (List.mem_append_left _ (List.mem_map.mpr ⟨p, h, rfl⟩))
theorem Dr.memo {d : Dr} {a : Addr} (h : a ∈ d.ob) : a ∈ d.as := List.mem_append_right _ (List.mem_append_right _ h)
theorem Dr.mem1 {d : Dr} {t : Addr × Addr × Addr} (h : d.at_ = some t) : t.1 ∈ d.as := List.mem_append_left _ (by simp [Dr.ds, h])
theorem Dr.mem2 {d : Dr} {t : Addr × Addr × Addr} (h : d.at_ = some t) : t.2.1 ∈ d.as := List.mem_append_left _ (by simp [Dr.ds, h])
theorem Dr.mem3 {d : Dr} {t : Addr × Addr × Addr} (h : d.at_ = some t) : t.2.2 ∈ d.as := List.mem_append_left _ (by simp [Dr.ds, h])

inductive D where
  | non | bl (b : Bool) | int (i : Int) | str (x : Str) | ty (n : String) | draw
  | tup (xs : List D) | ktup (xs : List D) | lst (xs : List D) | dic (kvs : List (D × D)) | dit (kvs : List (D × D)) | fdit (kvs : List (D × D)) | ins (c : Str) (fs : List (Str × D)) | scr (ns : List Int) | exc (c : Str) (fs : List (Str × D)) | lam (i : Nat) (ds : List D) | obj (k : Nat) | tok (k : Nat)
  deriving Inhabited

def kD : Key → D
  | .inl i => .int i
  | .inr x => .str x

/-- all that F tracks, G tracks too -/
def Ex (F G : Hp) : Prop := ∀ b u, F b = some u → G b = some u
theorem Ex.refl (F : Hp) : Ex F F := fun _ _ => id
theorem Ex.trans {F G J : Hp} (p : Ex F G) (q : Ex G J) : Ex F J := fun b u z => q b u (p b u z)
theorem Ex.new {F : Hp} {p : Addr} {o : HO} (n : F p = none) : Ex F (upd F p o) := fun b u z => (upd_ne (ne_of_none z n)).trans z
theorem Ex.rd {H H' : Hp} {a : Addr} {u : HO} (e : Ex H H') (h : Rd H a u) : Rd H' a u := by
  rcases h with h | ⟨o, h⟩
  · exact Or.inl (e a _ h)
  · exact Or.inr ⟨o, e a _ h⟩
theorem Ex.sl {K : PySem.W.Frag} {H H' : Hp} {a : Addr} {xs : List V} (e : Ex H H') (h : SqL K H a xs) : SqL K H' a xs := by
  rcases h with h | h
  · exact Or.inl (e.rd h)
  · exact Or.inr h
theorem Ex.st {K : PySem.W.Frag} {H H' : Hp} {a : Addr} {xs : List V} (e : Ex H H') (h : SqT K H a xs) : SqT K H' a xs := by
  rcases h with h | h
  · exact Or.inl (e.rd h)
  · exact Or.inr h
theorem Ex.free {H H' : Hp} {p : Addr} (e : Ex H H') (h : H' p = none) : H p = none := by
  cases h1 : H p with
  | none => rfl
  | some o =>
    rw [e p o h1] at h
    cases h

/-- an exception of the class at C, caught, its dict at d, or none -/
def EXQ (a C : Addr) (d : Option Addr) : HO := .ext fun h => ∃ (oe : PySem.Obj) (vs : Array Value), h.get? a = some oe ∧ oe.cls = .ref C ∧ oe.dict = d ∧ oe.data = .fields vs
abbrev EXO (a C dx : Addr) : HO := EXQ a C (some dx)
/-- an object that stays as it is -/
def StO (a : Addr) (o : PySem.Obj) : HO := .ext fun h => h.get? a = some o
/-- the cells of a lambda, and what they hold -/
structure LCells (G : Hp) (l : LamSyn) (cl : List (Str × Addr)) (vs : List V) : Prop where
  inj : ∀ x y c, cl.lookup x = some c → cl.lookup y = some c → x = y
  at_ : ∀ x c, cl.lookup x = some c → ∃ o v, G c = some (StO c o) ∧ o.data = .cell v
  has : ∀ y, l.scope.names.lookup y = some .free → ∃ c, cl.lookup y = some c
  val : ∀ (j : Nat) (x : Str) (v : V), l.N[j]? = some x → vs[j]? = some v → ∃ c o u, cl.lookup x = some c ∧ G c = some (StO c o) ∧ o.data = .cell (some u) ∧ RelV v u
abbrev lamObj (l : LamSyn) (cl : List (Str × Addr)) (pm : Value) (c' : Addr) (ctv : Value) : PySem.Obj := PySem.W.kla_obj "<lambda>" l.q l.params l.body l.scope cl pm c' ctv
theorem LCells.mono {G G' : Hp} {l : LamSyn} {cl : List (Str × Addr)} {vs : List V} (e : Ex G G') (h : LCells G l cl vs) : LCells G' l cl vs :=
  ⟨h.inj, fun x c q => let ⟨o, v, a, b⟩ := h.at_ x c q; ⟨o, v, e _ _ a, b⟩, h.has, fun j x v p q => let ⟨c, o, u, a, b, d⟩ := h.val j x v p q; ⟨c, o, u, a, e _ _ b, d⟩⟩
mutual
inductive Rep (c : Ct) (da : DA) (G : Hp) : V → D → Prop
  | non : Rep c da G .non .non
  | bl (b : Bool) : Rep c da G (.bl b) (.bl b)
  | int (i : Int) : Rep c da G (.int i) (.int i)
  | str (x : Str) : Rep c da G (.str x) (.str x)
  | ty (n : String) : Rep c da G (.ty n) (.ty n)
  | obj {a : Addr} {k : Nat} : da.ob[k]? = some a → Rep c da G (.ref a) (.obj k)
  | tok {v : V} {k : Nat} : da.tok k = some v → Rep c da G v (.tok k)
  | draw {a : Addr} : da.d = some a → Rep c da G (.ref a) .draw
  | tup {a : Addr} {xs : List V} {ds : List D} : G a = some (.tup xs) → RepAll c da G xs ds → Rep c da G (.ref a) (.tup ds)
  | ktup {a : Addr} {xs : List V} {ds : List D} : SqT c.K G a xs → RepAll c da G xs ds → Rep c da G (.ref a) (.ktup ds)
  | lst {a : Addr} {xs : List V} {ds : List D} : G a = some (.lst xs) → RepAll c da G xs ds → Rep c da G (.ref a) (.lst ds)
  | scr {a : Addr} {ns : List Int} : SqL c.K G a (ns.map V.int) → Rep c da G (.ref a) (.scr ns)
  | dK {a : Addr} {kvs : List (Key × V)} {ps : List (D × D)} : G a = some (.dK kvs) → RepKV c da G kvs ps → Rep c da G (.ref a) (.dic ps)
  | dT {a : Addr} {kvs : List (List Key × V)} {ps : List (D × D)} : G a = some (.dT kvs) → RepKT c da G kvs ps → Rep c da G (.ref a) (.dit ps)
  | fdT {a : Addr} {ob : Obj} {kvs : List (List Key × V)} {ps : List (D × D)} : G a = some (.frz ob (.dT kvs)) → RepKT c da G kvs ps → Rep c da G (.ref a) (.fdit ps)
  | exc {a C dx : Addr} {fs : List (Str × V)} {cn : Str} {gs : List (Str × D)} : G a = some (EXO a C dx) → G dx = some (.xd fs) → c.mg cn = some (.ref C) → RepF c da G fs gs → Rep c da G (.ref a) (.exc cn gs)
  | exo {a C : Addr} {cn : Str} : G a = some (ExO (.ref C) a) → c.mg cn = some (.ref C) → Rep c da G (.ref a) (.exc cn [])
  | exn {a C : Addr} {cn : Str} : G a = some (EXQ a C none) → c.mg cn = some (.ref C) → Rep c da G (.ref a) (.exc cn [])
  | ins {a C dx : Addr} {fs : List (Str × V)} {cn : Str} {gs : List (Str × D)} : G a = some (.ins C dx fs) → c.mg cn = some (.ref C) → RepF c da G fs gs → Rep c da G (.ref a) (.ins cn gs)
  | lam {f c' : Addr} {i : Nat} {l : LamSyn} {cl : List (Str × Addr)} {pm ctv : Value} {vs : List V} {ds : List D} : Tabl.L i = some l → G f = some (StO f (lamObj l cl pm c' ctv)) → G c' = some (LamX.CodeO c' l.q) → LCells G l cl vs → RepAll c da G vs ds → Rep c da G (.ref f) (.lam i ds)
inductive RepAll (c : Ct) (da : DA) (G : Hp) : List V → List D → Prop
  | nil : RepAll c da G [] []
  | cons {v : V} {vs : List V} {d : D} {ds : List D} : Rep c da G v d → RepAll c da G vs ds → RepAll c da G (v :: vs) (d :: ds)
inductive RepKV (c : Ct) (da : DA) (G : Hp) : List (Key × V) → List (D × D) → Prop
  | nil : RepKV c da G [] []
  | cons {k : Key} {v : V} {vs : List (Key × V)} {d : D} {ds : List (D × D)} : Rep c da G v d → RepKV c da G vs ds → RepKV c da G ((k, v) :: vs) ((kD k, d) :: ds)
inductive RepKT (c : Ct) (da : DA) (G : Hp) : List (List Key × V) → List (D × D) → Prop
  | nil : RepKT c da G [] []
  | cons {k : List Key} {v : V} {vs : List (List Key × V)} {d : D} {ds : List (D × D)} : Rep c da G v d → RepKT c da G vs ds → RepKT c da G ((k, v) :: vs) ((.tup (k.map kD), d) :: ds)
inductive RepF (c : Ct) (da : DA) (G : Hp) : List (Str × V) → List (Str × D) → Prop
  | nil : RepF c da G [] []
  | cons {k : Str} {v : V} {vs : List (Str × V)} {d : D} {ds : List (Str × D)} : Rep c da G v d → RepF c da G vs ds → RepF c da G ((k, v) :: vs) ((k, d) :: ds)
end

section
variable {c : Ct} {da : DA} {G G' : Hp}
mutual
theorem Rep.mono (e : Ex G G') : ∀ {v : V} {d : D}, Rep c da G v d → Rep c da G' v d
  | _, _, .non => .non
  | _, _, .bl b => .bl b
  | _, _, .int i => .int i
  | _, _, .str x => .str x
  | _, _, .ty n => .ty n
  | _, _, .draw h => .draw h
  | _, _, .obj h => .obj h
  | _, _, .tok h => .tok h
  | _, _, .tup h r => .tup (e _ _ h) (RepAll.mono e r)
  | _, _, .ktup h r => .ktup (e.st h) (RepAll.mono e r)
  | _, _, .lst h r => .lst (e _ _ h) (RepAll.mono e r)
  | _, _, .scr h => .scr (e.sl h)
  | _, _, .dK h r => .dK (e _ _ h) (RepKV.mono e r)
  | _, _, .dT h r => .dT (e _ _ h) (RepKT.mono e r)
  | _, _, .fdT h r => .fdT (e _ _ h) (RepKT.mono e r)
  | _, _, .exc h h2 m r => .exc (e _ _ h) (e _ _ h2) m (RepF.mono e r)
  | _, _, .exo h m => .exo (e _ _ h) m
  | _, _, .exn h m => .exn (e _ _ h) m
  | _, _, .ins h m r => .ins (e _ _ h) m (RepF.mono e r)
  | _, _, .lam t h h2 k r => .lam t (e _ _ h) (e _ _ h2) (k.mono e) (RepAll.mono e r)
theorem RepAll.mono (e : Ex G G') : ∀ {v : List V} {d : List D}, RepAll c da G v d → RepAll c da G' v d
  | _, _, .nil => .nil
  | _, _, .cons h r => .cons (Rep.mono e h) (RepAll.mono e r)
theorem RepKV.mono (e : Ex G G') : ∀ {v : List (Key × V)} {d : List (D × D)}, RepKV c da G v d → RepKV c da G' v d
  | _, _, .nil => .nil
  | _, _, .cons h r => .cons (Rep.mono e h) (RepKV.mono e r)
theorem RepKT.mono (e : Ex G G') : ∀ {v : List (List Key × V)} {d : List (D × D)}, RepKT c da G v d → RepKT c da G' v d
  | _, _, .nil => .nil
  | _, _, .cons h r => .cons (Rep.mono e h) (RepKT.mono e r)
theorem RepF.mono (e : Ex G G') : ∀ {v : List (Str × V)} {d : List (Str × D)}, RepF c da G v d → RepF c da G' v d
  | _, _, .nil => .nil
  | _, _, .cons h r => .cons (Rep.mono e h) (RepF.mono e r)
end
theorem RepAll.length : ∀ {v : List V} {d : List D}, RepAll c da G v d → v.length = d.length
  | _, _, .nil => rfl
  | _, _, .cons _ r => by simp [RepAll.length r]
theorem RepAll.get : ∀ {vs : List V} {ds : List D}, RepAll c da G vs ds → ∀ {i : Nat} {d : D}, ds[i]? = some d → ∃ v, vs[i]? = some v ∧ Rep c da G v d
  | _, _, .nil, _, _, h => by simp at h
  | _, _, .cons h r, 0, d, e => by
    obtain rfl := Option.some.inj e
    exact ⟨_, rfl, h⟩
  | _, _, .cons h r, i + 1, d, e => by
    obtain ⟨v, h1, h2⟩ := RepAll.get r (i := i) (d := d) (by simpa using e)
    exact ⟨v, by simpa using h1, h2⟩
theorem RepAll.append : ∀ {vs us : List V} {ds es : List D}, RepAll c da G vs ds → RepAll c da G us es → RepAll c da G (vs ++ us) (ds ++ es)
  | _, _, _, _, .nil, r => r
  | _, _, _, _, .cons h q, r => .cons h (RepAll.append q r)
theorem RepAll.snoc {vs : List V} {ds : List D} {v : V} {d : D} (r : RepAll c da G vs ds) (h : Rep c da G v d) : RepAll c da G (vs ++ [v]) (ds ++ [d]) := r.append (.cons h .nil)
theorem RepAll.take : ∀ {vs : List V} {ds : List D} (n : Nat), RepAll c da G vs ds → RepAll c da G (vs.take n) (ds.take n)
  | _, _, 0, _ => .nil
  | _, _, _ + 1, .nil => .nil
  | _, _, n + 1, .cons h r => .cons h (RepAll.take n r)
theorem RepAll.drop : ∀ {vs : List V} {ds : List D} (n : Nat), RepAll c da G vs ds → RepAll c da G (vs.drop n) (ds.drop n)
  | _, _, 0, r => r
  | _, _, _ + 1, .nil => .nil
  | _, _, n + 1, .cons _ r => RepAll.drop n r
theorem RepAll.reverse : ∀ {vs : List V} {ds : List D}, RepAll c da G vs ds → RepAll c da G vs.reverse ds.reverse
  | _, _, .nil => .nil
  | _, _, .cons h r => by
    rw [List.reverse_cons, List.reverse_cons]
    exact (RepAll.reverse r).append (.cons h .nil)
theorem RepAll.set : ∀ {vs : List V} {ds : List D} {v : V} {d : D} (i : Nat), RepAll c da G vs ds → Rep c da G v d → RepAll c da G (vs.set i v) (ds.set i d)
  | _, _, _, _, _, .nil, _ => .nil
  | _, _, _, _, 0, .cons _ r, h => .cons h r
  | _, _, _, _, i + 1, .cons q r, h => .cons q (RepAll.set i r h)
theorem RepAll.eraseIdx : ∀ {vs : List V} {ds : List D} (i : Nat), RepAll c da G vs ds → RepAll c da G (vs.eraseIdx i) (ds.eraseIdx i)
  | _, _, _, .nil => .nil
  | _, _, 0, .cons _ r => r
  | _, _, i + 1, .cons q r => .cons q (RepAll.eraseIdx i r)
theorem RepAll.ints : ∀ (ns : List Int), RepAll c da G (ns.map V.int) (ns.map D.int)
  | [] => .nil
  | n :: r => .cons (.int n) (RepAll.ints r)
theorem RepAll.ints_inv : ∀ {vs : List V} {ns : List Int}, RepAll c da G vs (ns.map D.int) → vs = ns.map V.int
  | _, [], h => by cases h; rfl
  | _, n :: r, h => by
    cases h with
    | cons a b =>
      cases a
      rw [RepAll.ints_inv b]
      rfl
theorem RepAll.strs_inv : ∀ {vs : List V} {ns : List Str}, RepAll c da G vs (ns.map D.str) → vs = ns.map V.str
  | _, [], h => by cases h; rfl
  | _, n :: r, h => by
    cases h with
    | cons a b =>
      cases a
      rw [RepAll.strs_inv b]
      rfl
theorem RepAll.strs : ∀ (ns : List Str), RepAll c da G (ns.map V.str) (ns.map D.str)
  | [] => .nil
  | n :: r => .cons (.str n) (RepAll.strs r)
theorem RepAll.bls_inv : ∀ {vs : List V} {ns : List Bool}, RepAll c da G vs (ns.map D.bl) → vs = ns.map V.bl
  | _, [], h => by cases h; rfl
  | _, n :: r, h => by
    cases h with
    | cons a b =>
      cases a
      rw [RepAll.bls_inv b]
      rfl
theorem RepF.lookup : ∀ {fs : List (Str × V)} {gs : List (Str × D)}, RepF c da G fs gs → ∀ {f : Str} {d : D}, gs.lookup f = some d → ∃ v, fs.lookup f = some v ∧ Rep c da G v d
  | _, _, .nil, _, _, h => by cases h
  | _, _, .cons (k := k) h r, f, d, e => by
    rw [List.lookup_cons] at e
    rw [List.lookup_cons]
    cases q : f == k with
    | true =>
      rw [q] at e
      have e' := Option.some.inj e
      subst e'
      exact ⟨_, rfl, h⟩
    | false =>
      rw [q] at e
      exact RepF.lookup r e
theorem RepF.none : ∀ {fs : List (Str × V)} {gs : List (Str × D)}, RepF c da G fs gs → ∀ {f : Str}, gs.lookup f = none → fs.lookup f = none
  | _, _, .nil, _, h => rfl
  | _, _, .cons (k := k) h r, f, e => by
    rw [List.lookup_cons] at e
    rw [List.lookup_cons]
    cases q : f == k with
    | true =>
      rw [q] at e
      cases e
    | false =>
      rw [q] at e
      exact RepF.none r e
end

/-- the heap without what stands at O -/
def vis (O : List Addr) (H : Hp) : Hp := fun b => if b ∈ O then none else H b
theorem vis_in {O : List Addr} {H : Hp} {a : Addr} (h : a ∈ O) : vis O H a = none := if_pos h
theorem vis_out {O : List Addr} {H : Hp} {a : Addr} (h : a ∉ O) : vis O H a = H a := if_neg h
theorem vis_some {O : List Addr} {H : Hp} {a : Addr} {o : HO} (h : vis O H a = some o) : a ∉ O ∧ H a = some o := by
  by_cases q : a ∈ O
  · rw [vis_in q] at h
    cases h
  · rw [vis_out q] at h
    exact ⟨q, h⟩
theorem vis_ex {O : List Addr} {H : Hp} : Ex (vis O H) H := fun a o h => (vis_some h).2
theorem vis_mono {O : List Addr} {H H' : Hp} (e : Ex H H') : Ex (vis O H) (vis O H') := fun a o h => by
  obtain ⟨n, q⟩ := vis_some h
  rw [vis_out n]
  exact e a o q
theorem vis_cons {O : List Addr} {H : Hp} {a : Addr} : Ex (vis (a :: O) H) (vis O H) := fun b o h => by
  obtain ⟨n, q⟩ := vis_some h
  rw [vis_out fun z => n (List.mem_cons_of_mem _ z)]
  exact q
theorem vis_sub {O O' : List Addr} {H : Hp} (h : ∀ a ∈ O', a ∈ O) : Ex (vis O H) (vis O' H) := fun b o e => by
  obtain ⟨n, q⟩ := vis_some e
  rw [vis_out fun z => n (h b z)]
  exact q
/-- writing at a hidden place -/
theorem vis_upd {O : List Addr} {H : Hp} {a : Addr} {o : HO} (h : a ∈ O) : vis O (upd H a o) = vis O H := by
  funext b
  by_cases q : b ∈ O
  · rw [vis_in q, vis_in q]
  · rw [vis_out q, vis_out q, upd_ne fun z => q (by rw [z]; exact h)]

/-- a list or a dict, as it stands -/
def Obj (c : Ct) (da : DA) (G : Hp) (o : HO) (d : D) : Prop :=
  (∃ xs ds, o = .lst xs ∧ d = .lst ds ∧ RepAll c da G xs ds) ∨ (∃ kvs ps, o = .dK kvs ∧ d = .dic ps ∧ RepKV c da G kvs ps) ∨ (∃ kvs ps, o = .dT kvs ∧ d = .dit ps ∧ RepKT c da G kvs ps) ∨ (∃ C dx fs cn gs, o = .ins C dx fs ∧ d = .ins cn gs ∧ c.mg cn = some (.ref C) ∧ RepF c da G fs gs)
theorem Obj.mono {c : Ct} {da : DA} {G G' : Hp} {o : HO} {d : D} (e : Ex G G') (h : Obj c da G o d) : Obj c da G' o d := by
  rcases h with ⟨xs, ds, h1, h2, r⟩ | ⟨kvs, ps, h1, h2, r⟩ | ⟨kvs, ps, h1, h2, r⟩ | ⟨C, dx, fs, cn, gs, h1, h2, h3, r⟩
  · exact .inl ⟨xs, ds, h1, h2, r.mono e⟩
  · exact .inr (.inl ⟨kvs, ps, h1, h2, r.mono e⟩)
  · exact .inr (.inr (.inl ⟨kvs, ps, h1, h2, r.mono e⟩))
  · exact .inr (.inr (.inr ⟨C, dx, fs, cn, gs, h1, h2, h3, r.mono e⟩))
theorem Obj.rep {c : Ct} {da : DA} {G : Hp} {a : Addr} {o : HO} {d : D} (h : Obj c da G o d) (e : G a = some o) : Rep c da G (.ref a) d := by
  rcases h with ⟨xs, ds, rfl, rfl, r⟩ | ⟨kvs, ps, rfl, rfl, r⟩ | ⟨kvs, ps, rfl, rfl, r⟩ | ⟨C, dx, fs, cn, gs, rfl, rfl, h3, r⟩
  · exact .lst e r
  · exact .dK e r
  · exact .dT e r
  · exact .ins e h3 r

/-- neither a tuple nor a thing of another kind -/
def tagOf : HO → Option (List V)
  | .tup xs => some xs
  | .ext _ => some []
  | _ => none
def NT (o : HO) : Prop := ∀ xs, tagOf o ≠ some xs
theorem Obj.nt {c : Ct} {da : DA} {G : Hp} {o : HO} {d : D} (h : Obj c da G o d) : NT o := by
  rcases h with ⟨_, _, rfl, _⟩ | ⟨_, _, rfl, _⟩ | ⟨_, _, rfl, _⟩ | ⟨_, _, _, _, _, rfl, _⟩ <;> (intro xs z; cases z)
/-! ### the state -/
inductive Slot where
  | val (d : D) | own (d : D)
abbrev Env := List (Option Slot)
structure W where
  wide : List Int
  cells : List Int
  rest : Int
  turn : Int
  st : List D
inductive RV where
  | sh (d : D) | fr (d : D) | ow (i : Nat) | ob (k : Nat)
abbrev M (α : Type) := Env → W → Option (α × Env × W)
def pureM {α : Type} (a : α) : M α := fun ρ w => some (a, ρ, w)
def failM {α : Type} : M α := fun _ _ => none
def bindM {α β : Type} (f : M α) (k : α → M β) : M β := fun ρ w => match f ρ w with
  | none => none
  | some (a, ρ', w') => k a ρ' w'
theorem bindM_some {α β : Type} {f : M α} {k : α → M β} {ρ : Env} {w : W} {z : β × Env × W} (h : bindM f k ρ w = some z) : ∃ a ρ' w', f ρ w = some (a, ρ', w') ∧ k a ρ' w' = some z := by
  unfold bindM at h
  cases e : f ρ w with
  | none =>
    rw [e] at h
    cases h
  | some p =>
    obtain ⟨a, ρ', w'⟩ := p
    rw [e] at h
    exact ⟨a, ρ', w', rfl, h⟩

def DrawAt (dr : Dr) (w : W) (H : Hp) : Prop :=
  (∀ t, dr.at_ = some t → H t.1 = some (.dK [(.inr "wide", .ref t.2.1), (.inr "cells", .ref t.2.2), (.inr "rest", .int w.rest), (.inr "turn", .int w.turn)]) ∧
    H t.2.1 = some (.lst (w.wide.map V.int)) ∧ H t.2.2 = some (.lst (w.cells.map V.int)) ∧ t.2.1 ≠ t.2.2 ∧ w.cells = dr.cl) ∧ LamX.Tabs Tabl.T H

/-- the objects of the store -/
structure Sto (c : Ct) (dr : Dr) (st : List D) (O : List Addr) (H : Hp) : Prop where
  len : dr.ob.length = st.length
  nd : dr.ob.Nodup
  dj : ∀ a ∈ dr.ob, a ∉ dr.ds ∧ a ∉ Tabl.T.map (·.1)
  is : ∀ (k : Nat) a d, dr.ob[k]? = some a → st[k]? = some d → ∃ o, H a = some o ∧ Obj c dr.da (vis O H) o d
theorem Sto.mono {c : Ct} {dr : Dr} {st : List D} {O O' : List Addr} {H H' : Hp} (h : Sto c dr st O H) (e : Ex (vis O H) (vis O' H')) (k : ∀ a ∈ dr.ob, ∀ o, H a = some o → H' a = some o) : Sto c dr st O' H' :=
  ⟨h.len, h.nd, h.dj, fun i a d h1 h2 => let ⟨o, h3, h4⟩ := h.is i a d h1 h2; ⟨o, k a (List.mem_of_getElem? h1) o h3, h4.mono e⟩⟩
theorem Sto.trk {c : Ct} {dr : Dr} {st : List D} {O : List Addr} {H : Hp} (h : Sto c dr st O H) {a : Addr} (m : a ∈ dr.ob) : ∃ o, H a = some o ∧ NT o := by
  obtain ⟨k, hk, e⟩ := List.getElem_of_mem m
  have hs : k < st.length := by rw [← h.len]; exact hk
  obtain ⟨o, h3, h4⟩ := h.is k a st[k] (by rw [List.getElem?_eq_getElem hk, e]) (List.getElem?_eq_getElem hs)
  exact ⟨o, h3, h4.nt⟩
theorem Sto.nil {c : Ct} {dr : Dr} {O : List Addr} {H : Hp} (h : dr.ob = []) : Sto c dr [] O H :=
  ⟨by simp [h], by simp [h], (fun a z => by simp [h] at z), (fun k a d z => by simp [h] at z)⟩
/-- the draws and the store -/
structure DS (c : Ct) (dr : Dr) (w : W) (O : List Addr) (H : Hp) : Prop where
  d : DrawAt dr w H
  s : Sto c dr w.st O H
/-- a frame: the draws, what was hidden at the entry, the heap at the entry -/
structure Fm where
  dr : Dr
  O0 : List Addr
  H0 : Hp
structure SR (c : Ct) (F : Fm) (O : List Addr) (ρ : Env) (w : W) (σ : L2.St) (H : Hp) : Prop where
  len : ρ.length = σ.length
  base : ∀ a o, F.H0 a = some o → a ∉ F.dr.as → H a = some o
  new : ∀ a ∈ O, a ∉ F.O0 → F.H0 a = none
  sub : ∀ a ∈ F.O0, a ∈ O
  drs : ∀ a ∈ F.dr.as, a ∈ F.O0
  trk : ∀ a ∈ O, ∃ o, H a = some o ∧ NT o
  draw : DS c F.dr w O H
  val : ∀ (i : Nat) d, ρ[i]? = some (some (Slot.val d)) → ∃ v, σ[i]? = some (some v) ∧ Rep c F.dr.da (vis O H) v d
  own : ∀ (i : Nat) d, ρ[i]? = some (some (Slot.own d)) → ∃ a o, σ[i]? = some (some (V.ref a)) ∧ a ∈ O ∧ a ∉ F.O0 ∧ H a = some o ∧ Obj c F.dr.da (vis O H) o d
  uni : ∀ (i j : Nat) d d' a, ρ[i]? = some (some (Slot.own d)) → ρ[j]? = some (some (Slot.own d')) → σ[i]? = some (some (V.ref a)) → σ[j]? = some (some (V.ref a)) → i = j

/-- a value that came out; G: what was to be seen at the start -/
def RepR (c : Ct) (F : Fm) (G : Hp) (O : List Addr) (ρ : Env) (w : W) (σ : L2.St) (H : Hp) : RV → V → Prop
  | .sh d, v => Rep c F.dr.da (vis O H) v d
  | .fr d, v => ∃ a o, v = .ref a ∧ a ∉ O ∧ SR c F (a :: O) ρ w σ H ∧ H a = some o ∧ Obj c F.dr.da (vis (a :: O) H) o d ∧ Ex G (vis (a :: O) H)
  | .ow i, v => σ[i]? = some (some v) ∧ ∃ d, ρ[i]? = some (some (.own d))
  | .ob k, v => ∃ a, v = .ref a ∧ F.dr.ob[k]? = some a
/-- a value that is held while others are reckoned -/
def Hold (c : Ct) (F : Fm) (O : List Addr) (σ : L2.St) (H : Hp) : RV → V → Prop
  | .sh d, v => Rep c F.dr.da (vis O H) v d
  | .fr d, v => Rep c F.dr.da (vis O H) v d
  | .ow i, v => σ[i]? = some (some v)
  | .ob k, v => ∃ a, v = .ref a ∧ F.dr.ob[k]? = some a
/-- a value that is looked at: its own object may be hidden -/
def RepP (c : Ct) (da : DA) (O : List Addr) (H : Hp) (v : V) (d : D) : Prop :=
  Rep c da (vis O H) v d ∨ ∃ a o, v = .ref a ∧ H a = some o ∧ Obj c da (vis O H) o d
def slotD : Option (Option Slot) → Option D
  | some (some (.own d)) => some d
  | some (some (.val d)) => some d
  | _ => none
def peek (ρ : Env) (w : W) : RV → Option D
  | .sh d => some d
  | .fr d => some d
  | .ow i => slotD ρ[i]?
  | .ob k => w.st[k]?
/-- a new value of a plain operation: H' is H with more -/
def RepN (c : Ct) (da : DA) (O : List Addr) (H H' : Hp) : RV → V → Prop
  | .sh d, v => Rep c da (vis O H') v d
  | .fr d, v => ∃ a o, v = .ref a ∧ H a = none ∧ H' a = some o ∧ Obj c da (vis (a :: O) H') o d
  | .ow _, _ => False
  | .ob _, _ => False

section
variable {c : Ct} {F : Fm} {G G' : Hp} {O O' : List Addr} {ρ : Env} {w : W} {σ : L2.St} {H H' : Hp} {r : RV} {v : V} {d : D}
theorem DrawAt.mono {dr : Dr} {w : W} (e : Ex H H') (h : DrawAt dr w H) : DrawAt dr w H' := ⟨fun t q => let ⟨a, b, c, d⟩ := h.1 t q; ⟨e _ _ a, e _ _ b, e _ _ c, d⟩, h.2.ext e⟩
theorem DS.mono {dr : Dr} {w : W} (e : Ex H H') (h : DS c dr w O H) : DS c dr w O H' := ⟨h.d.mono e, h.s.mono (vis_mono e) fun a _ o q => e a o q⟩
theorem DS.wr {dr : Dr} {w w' : W} (h : DS c dr w O H) (d : DrawAt dr w' H') (e : w'.st = w.st) (v : Ex (vis O H) (vis O H')) (k : ∀ b ∈ dr.ob, ∀ u, H b = some u → H' b = some u) : DS c dr w' O H' := ⟨d, e ▸ h.s.mono v k⟩
theorem DS.to {dr : Dr} {w : W} (h : DS c dr w O H) (e : Ex H H') (v : Ex (vis O H) (vis O' H')) : DS c dr w O' H' := ⟨h.d.mono e, h.s.mono v fun a _ o q => e a o q⟩
/-- more objects -/
theorem SR.grow (S : SR c F O ρ w σ H) (e : Ex H H') : SR c F O ρ w σ H' where
  len := S.len
  base := fun a o h n => e _ _ (S.base a o h n)
  new := S.new
  sub := S.sub
  drs := S.drs
  trk := fun a h => let ⟨o, q, n⟩ := S.trk a h; ⟨o, e _ _ q, n⟩
  draw := S.draw.mono e
  val := fun i d h => let ⟨v, h1, h2⟩ := S.val i d h; ⟨v, h1, h2.mono (vis_mono e)⟩
  own := fun i d h => let ⟨a, o, h1, h2, h3, h4, h5⟩ := S.own i d h; ⟨a, o, h1, h2, h3, e _ _ h4, h5.mono (vis_mono e)⟩
  uni := S.uni
theorem Hold.mono (e : Ex (vis O H) (vis O' H')) (h : Hold c F O σ H r v) : Hold c F O' σ H' r v := by
  cases r with
  | sh d => exact Rep.mono e h
  | fr d => exact Rep.mono e h
  | ow i => exact h
  | ob k => exact h
theorem RepR.less (e : Ex G' G) (h : RepR c F G O ρ w σ H r v) : RepR c F G' O ρ w σ H r v := by
  cases r with
  | sh d => exact h
  | ow i => exact h
  | ob k => exact h
  | fr d =>
    obtain ⟨a, o, h1, h2, h3, h4, h5, h6⟩ := h
    exact ⟨a, o, h1, h2, h3, h4, h5, e.trans h6⟩
theorem RepR.hold (h : RepR c F G O ρ w σ H r v) : Hold c F O σ H r v := by
  cases r with
  | sh d => exact h
  | fr d =>
    obtain ⟨a, o, rfl, n, S, e, q, _⟩ := h
    exact (q.mono vis_cons).rep (by rw [vis_out n]; exact e)
  | ow i => exact h.1
  | ob k => exact h
theorem Hold.peek (S : SR c F O ρ w σ H) (h : Hold c F O σ H r v) (e : peek ρ w r = some d) : RepP c F.dr.da O H v d := by
  cases r with
  | ob k =>
    obtain ⟨a, rfl, ha⟩ := h
    obtain ⟨o, h1, h2⟩ := S.draw.s.is k a d ha e
    exact .inr ⟨a, o, rfl, h1, h2⟩
  | sh d' =>
    cases e
    exact .inl h
  | fr d' =>
    cases e
    exact .inl h
  | ow i =>
    have e : slotD ρ[i]? = some d := e
    have h' : σ[i]? = some (some v) := h
    cases q : ρ[i]? with
    | none =>
      rw [q] at e
      cases e
    | some s =>
      rw [q] at e
      cases s with
      | none => cases e
      | some s =>
        cases s with
        | val d' =>
          cases e
          obtain ⟨v', h1, h2⟩ := S.val i d q
          rw [h'] at h1
          cases h1
          exact .inl h2
        | own d' =>
          cases e
          obtain ⟨a, o, h1, h2, h3, h4, h5⟩ := S.own i d q
          rw [h'] at h1
          cases h1
          exact .inr ⟨a, o, rfl, h4, h5⟩
/-- one more hidden place -/
theorem SR.hide {a : Addr} {o : HO} (S : SR c F O ρ w σ H) (n : H a = none) (e : Ex H H') (q : H' a = some o) (nt : NT o := by intro _ z; cases z) : SR c F (a :: O) ρ w σ H' ∧ a ∉ O ∧ Ex (vis O H) (vis (a :: O) H') := by
  have S' := S.grow e
  have nO : a ∉ O := fun z => by
    obtain ⟨u, hu, _⟩ := S.trk a z
    rw [n] at hu
    cases hu
  have k : Ex (vis O H) (vis (a :: O) H') := fun b u hb => by
    obtain ⟨m, hb⟩ := vis_some hb
    rw [vis_out fun z => ?_]
    · exact e _ _ hb
    · rcases List.mem_cons.mp z with z | z
      · rw [z, n] at hb
        cases hb
      · exact m z
  refine ⟨⟨S.len, S'.base, fun b h m => ?_, fun b h => List.mem_cons_of_mem _ (S.sub b h), S.drs, fun b h => ?_, S.draw.to e k, fun i d h => ?_, fun i d h => ?_, S'.uni⟩, nO, k⟩
  · rcases List.mem_cons.mp h with z | z
    · subst z
      cases z : F.H0 b with
      | none => rfl
      | some u =>
        have nd : b ∉ F.dr.as := fun y => m (S.drs b y)
        rw [S.base b u z nd] at n
        cases n
    · exact S.new b z m
  · rcases List.mem_cons.mp h with z | z
    · rw [z]
      exact ⟨o, q, nt⟩
    · exact S'.trk b z
  · obtain ⟨u, h1, h2⟩ := S.val i d h
    exact ⟨u, h1, h2.mono k⟩
  · obtain ⟨b, u, h1, h2, h3, h4, h5⟩ := S.own i d h
    exact ⟨b, u, h1, List.mem_cons_of_mem _ h2, h3, e _ _ h4, h5.mono k⟩
/-- a plain operation's value is a value that came out -/
theorem RepN.out (S : SR c F O ρ w σ H) (e : Ex H H') (h : RepN c F.dr.da O H H' r v) : RepR c F (vis O H) O ρ w σ H' r v := by
  cases r with
  | sh d => exact h
  | ow i => exact h.elim
  | ob i => exact h.elim
  | fr d =>
    obtain ⟨a, o, rfl, n, q, ob⟩ := h
    obtain ⟨S1, n1, k1⟩ := S.hide n e q ob.nt
    exact ⟨a, o, rfl, n1, S1, q, ob, k1⟩
end

/-! ### the judgements -/
abbrev ct (X : Cx) : Ct := ⟨X.K, X.mg⟩
def tE (c : Ct) (F : Fm) (f : M RV) : TE := fun σ H Q => ∃ O ρ w r ρ' w', SR c F O ρ w σ H ∧ f ρ w = some (r, ρ', w') ∧
  ∀ v O' H', SR c F O' ρ' w' σ H' → Ex (vis O H) (vis O' H') → RepR c F (vis O H) O' ρ' w' σ H' r v → Q v H'
def tT (c : Ct) (F : Fm) (f : M Bool) : TT := fun σ H Q => ∃ O ρ w b ρ' w', SR c F O ρ w σ H ∧ f ρ w = some (b, ρ', w') ∧
  ∀ O' H', SR c F O' ρ' w' σ H' → Ex (vis O H) (vis O' H') → Q b H'
inductive HoldAll (c : Ct) (F : Fm) (O : List Addr) (σ : L2.St) (H : Hp) : List RV → List V → Prop
  | nil : HoldAll c F O σ H [] []
  | cons {r : RV} {v : V} {rs : List RV} {vs : List V} : Hold c F O σ H r v → HoldAll c F O σ H rs vs → HoldAll c F O σ H (r :: rs) (v :: vs)
theorem HoldAll.mono {c : Ct} {F : Fm} {O O' : List Addr} {σ : L2.St} {H H' : Hp} (e : Ex (vis O H) (vis O' H')) : ∀ {rs : List RV} {vs : List V}, HoldAll c F O σ H rs vs → HoldAll c F O' σ H' rs vs
  | _, _, .nil => .nil
  | _, _, .cons h r => .cons (h.mono e) (HoldAll.mono e r)
theorem HoldAll.length {c : Ct} {F : Fm} {O : List Addr} {σ : L2.St} {H : Hp} : ∀ {rs : List RV} {vs : List V}, HoldAll c F O σ H rs vs → rs.length = vs.length
  | _, _, .nil => rfl
  | _, _, .cons h r => by simp [HoldAll.length r]
def tA (c : Ct) (F : Fm) (f : M (List RV)) : TA := fun σ H Q => ∃ O ρ w rs ρ' w', SR c F O ρ w σ H ∧ f ρ w = some (rs, ρ', w') ∧
  ∀ vs O' H', SR c F O' ρ' w' σ H' → Ex (vis O H) (vis O' H') → HoldAll c F O' σ H' rs vs → Q vs H'
def FE (X : Cx) (e : Expr) (f : M RV) : Prop := ∀ F, PE X e (tE (ct X) F f)
def FT (X : Cx) (e : Expr) (f : M Bool) : Prop := ∀ F, PT X e (tT (ct X) F f)
def FW (X : Cx) (e : Expr) (f : M Bool) : Prop := ∀ F, PW X e (tT (ct X) F f)
structure FA (X : Cx) (es : List Expr) (f : M (List RV)) : Prop where
  run : ∀ F, PA X es (tA (ct X) F f)
  len : ∀ ρ w rs ρ' w', f ρ w = some (rs, ρ', w') → rs.length = es.length
/-- how a statement ends -/
inductive Fl where
  | nx | ret (r : RV) | bk | ct
def Done (c : Ct) (F : Fm) (G : Hp) (fl : Fl) (ρ : Env) (w : W) (E : Ends) : Prop := match fl with
  | .nx => ∀ σ O H, SR c F O ρ w σ H → Ex G (vis O H) → E.nx σ H
  | .bk => ∀ σ O H, SR c F O ρ w σ H → Ex G (vis O H) → E.bk σ H
  | .ct => ∀ σ O H, SR c F O ρ w σ H → Ex G (vis O H) → E.ct σ H
  | .ret r => ∀ v σ O H, SR c F O ρ w σ H → RepR c F G O ρ w σ H r v → E.rt v H
theorem Done.more {c : Ct} {F : Fm} {G G' : Hp} {fl : Fl} {ρ : Env} {w : W} {E : Ends} (e : Ex G G') (h : Done c F G fl ρ w E) : Done c F G' fl ρ w E := by
  cases fl with
  | nx => exact fun σ O H S x => h σ O H S (e.trans x)
  | bk => exact fun σ O H S x => h σ O H S (e.trans x)
  | ct => exact fun σ O H S x => h σ O H S (e.trans x)
  | ret r => exact fun v σ O H S x => h v σ O H S (x.less e)
def tS (c : Ct) (F : Fm) (f : M Fl) : TS := fun E σ H => ∃ O ρ w fl ρ' w', SR c F O ρ w σ H ∧ f ρ w = some (fl, ρ', w') ∧ Done c F (vis O H) fl ρ' w' E
def FS (X : Cx) (st : Stmt) (f : M Fl) : Prop := ∀ F, PS X st (tS (ct X) F f)
def FSs (X : Cx) (st : List Stmt) (f : M Fl) : Prop := ∀ F, PSs X st (tS (ct X) F f)
theorem PE.wk {X : Cx} {e : Expr} {t t' : TE} (h : PE X e t) (k : ∀ σ H Q, t' σ H Q → t σ H Q) : PE X e t' := ⟨fun pins s σ H Q I q => h.run pins s σ H Q I (k σ H Q q)⟩
theorem PT.wk {X : Cx} {e : Expr} {t t' : TT} (h : PT X e t) (k : ∀ σ H Q, t' σ H Q → t σ H Q) : PT X e t' := ⟨fun pins s σ H Q I q => h.run pins s σ H Q I (k σ H Q q)⟩
theorem PW.wk {X : Cx} {e : Expr} {t t' : TT} (h : PW X e t) (k : ∀ σ H Q, t' σ H Q → t σ H Q) : PW X e t' := ⟨fun wh pins s σ H Q I q => h.run wh pins s σ H Q I (k σ H Q q)⟩
theorem PA.wk {X : Cx} {e : List Expr} {t t' : TA} (h : PA X e t) (k : ∀ σ H Q, t' σ H Q → t σ H Q) : PA X e t' := ⟨fun p pins s σ H Q I q => h.run p pins s σ H Q I (k σ H Q q)⟩
theorem PS.wk {X : Cx} {e : Stmt} {t t' : TS} (h : PS X e t) (k : ∀ D σ H, t' D σ H → t D σ H) : PS X e t' := ⟨fun pins s σ H D I q => h.run pins s σ H D I (k D σ H q)⟩
theorem PSs.wk {X : Cx} {e : List Stmt} {t t' : TS} (h : PSs X e t) (k : ∀ D σ H, t' D σ H → t D σ H) : PSs X e t' := ⟨fun pins s σ H D I q => h.run pins s σ H D I (k D σ H q)⟩
end FD

end sec_FD1
section sec_FD2
set_option maxRecDepth 100000
set_option maxHeartbeats 5000000
/-! FD2: expressions. -/
namespace FD
open PySem L2
variable [Tabl]

section
variable {c : Ct} {da : DA} {O : List Addr} {H : Hp} {v : V}
theorem Obj.noInt {G : Hp} {o : HO} {i : Int} (h : Obj c da G o (.int i)) : False := by
  rcases h with ⟨_, _, _, e, _⟩ | ⟨_, _, _, e, _⟩ | ⟨_, _, _, e, _⟩ | ⟨_, _, _, _, _, _, e, _⟩ <;> cases e
theorem RepP.int {i : Int} (h : RepP c da O H v (.int i)) : v = .int i := by
  rcases h with h | ⟨a, o, _, _, h⟩
  · cases h; rfl
  · exact h.noInt.elim
theorem RepP.str {i : Str} (h : RepP c da O H v (.str i)) : v = .str i := by
  rcases h with h | ⟨a, o, _, _, h⟩
  · cases h; rfl
  · rcases h with ⟨_, _, _, e, _⟩ | ⟨_, _, _, e, _⟩ | ⟨_, _, _, e, _⟩ | ⟨_, _, _, _, _, _, e, _⟩ <;> cases e
theorem RepP.bl {i : Bool} (h : RepP c da O H v (.bl i)) : v = .bl i := by
  rcases h with h | ⟨a, o, _, _, h⟩
  · cases h; rfl
  · rcases h with ⟨_, _, _, e, _⟩ | ⟨_, _, _, e, _⟩ | ⟨_, _, _, e, _⟩ | ⟨_, _, _, _, _, _, e, _⟩ <;> cases e
theorem RepP.non (h : RepP c da O H v .non) : v = .non := by
  rcases h with h | ⟨a, o, _, _, h⟩
  · cases h; rfl
  · rcases h with ⟨_, _, _, e, _⟩ | ⟨_, _, _, e, _⟩ | ⟨_, _, _, e, _⟩ | ⟨_, _, _, _, _, _, e, _⟩ <;> cases e
theorem RepP.ty {n : String} (h : RepP c da O H v (.ty n)) : v = .ty n := by
  rcases h with h | ⟨a, o, _, _, h⟩
  · cases h; rfl
  · rcases h with ⟨_, _, _, e, _⟩ | ⟨_, _, _, e, _⟩ | ⟨_, _, _, e, _⟩ | ⟨_, _, _, _, _, _, e, _⟩ <;> cases e
theorem RepP.tup {ds : List D} (h : RepP c da O H v (.tup ds)) : ∃ a xs, v = .ref a ∧ SqT c.K H a xs ∧ RepAll c da (vis O H) xs ds ∧ Rep c da (vis O H) v (.tup ds) := by
  rcases h with h | ⟨a, o, _, _, h⟩
  · cases id h with
    | tup s r => exact ⟨_, _, rfl, .inl (.inl (vis_ex _ _ s)), r, h⟩
  · rcases h with ⟨_, _, _, e, _⟩ | ⟨_, _, _, e, _⟩ | ⟨_, _, _, e, _⟩ | ⟨_, _, _, _, _, _, e, _⟩ <;> cases e
theorem RepP.tupH {ds : List D} (h : RepP c da O H v (.tup ds)) : ∃ a xs, v = .ref a ∧ vis O H a = some (.tup xs) ∧ RepAll c da (vis O H) xs ds := by
  rcases h with h | ⟨a, o, _, _, h⟩
  · cases h with
    | tup s r => exact ⟨_, _, rfl, s, r⟩
  · rcases h with ⟨_, _, _, e, _⟩ | ⟨_, _, _, e, _⟩ | ⟨_, _, _, e, _⟩ | ⟨_, _, _, _, _, _, e, _⟩ <;> cases e
theorem RepP.ktup {ds : List D} (h : RepP c da O H v (.ktup ds)) : ∃ a xs, v = .ref a ∧ SqT c.K H a xs ∧ RepAll c da (vis O H) xs ds ∧ Rep c da (vis O H) v (.ktup ds) := by
  rcases h with h | ⟨a, o, _, _, h⟩
  · cases id h with
    | ktup s r => exact ⟨_, _, rfl, vis_ex.st s, r, h⟩
  · rcases h with ⟨_, _, _, e, _⟩ | ⟨_, _, _, e, _⟩ | ⟨_, _, _, e, _⟩ | ⟨_, _, _, _, _, _, e, _⟩ <;> cases e
theorem RepP.lst {ds : List D} (h : RepP c da O H v (.lst ds)) : ∃ a xs, v = .ref a ∧ H a = some (.lst xs) ∧ RepAll c da (vis O H) xs ds := by
  rcases h with h | ⟨a, o, ev, e, h⟩
  · cases h with
    | lst s r => exact ⟨_, _, rfl, vis_ex _ _ s, r⟩
  · rcases h with ⟨xs, es, e1, e2, r⟩ | ⟨_, _, _, e, _⟩ | ⟨_, _, _, e, _⟩ | ⟨_, _, _, _, _, _, e, _⟩
    · cases e2
      subst e1
      exact ⟨a, xs, ev, e, r⟩
    · cases e
    · cases e
    · cases e
theorem RepP.scr {ns : List Int} (h : RepP c da O H v (.scr ns)) : ∃ a, v = .ref a ∧ SqL c.K H a (ns.map V.int) := by
  rcases h with h | ⟨a, o, _, _, h⟩
  · cases h with
    | scr s => exact ⟨_, rfl, vis_ex.sl s⟩
  · rcases h with ⟨_, _, _, e, _⟩ | ⟨_, _, _, e, _⟩ | ⟨_, _, _, e, _⟩ | ⟨_, _, _, _, _, _, e, _⟩ <;> cases e
theorem RepP.ins {cn : Str} {gs : List (Str × D)} (h : RepP c da O H v (.ins cn gs)) : ∃ a C dx fs, v = .ref a ∧ H a = some (.ins C dx fs) ∧ c.mg cn = some (.ref C) ∧ RepF c da (vis O H) fs gs := by
  rcases h with h | ⟨a, o, ev, ea, h⟩
  · cases id h with
    | ins e m r => exact ⟨_, _, _, _, rfl, vis_ex _ _ e, m, r⟩
  · rcases h with ⟨_, _, _, e, _⟩ | ⟨_, _, _, e, _⟩ | ⟨_, _, _, e, _⟩ | ⟨C, dx, fs, cn', gs', e1, e2, e3, r⟩
    · cases e
    · cases e
    · cases e
    · cases e2
      subst e1
      exact ⟨a, C, dx, fs, ev, ea, e3, r⟩
theorem RepP.dic {ps : List (D × D)} (h : RepP c da O H v (.dic ps)) : ∃ a kvs, v = .ref a ∧ H a = some (.dK kvs) ∧ RepKV c da (vis O H) kvs ps := by
  rcases h with h | ⟨a, o, ev, e, h⟩
  · cases h with
    | dK s r => exact ⟨_, _, rfl, vis_ex _ _ s, r⟩
  · rcases h with ⟨xs, es, e1, e2, r⟩ | ⟨kvs, qs, e1, e2, r⟩ | ⟨kvs, qs, e1, e2, r⟩ | ⟨_, _, _, _, _, _, e2, _⟩
    · cases e2
    · cases e2
      subst e1
      exact ⟨a, kvs, ev, e, r⟩
    · cases e2
    · cases e2
theorem RepP.dit {ps : List (D × D)} (h : RepP c da O H v (.dit ps)) : ∃ a kvs, v = .ref a ∧ H a = some (.dT kvs) ∧ RepKT c da (vis O H) kvs ps := by
  rcases h with h | ⟨a, o, ev, e, h⟩
  · cases h with
    | dT s r => exact ⟨_, _, rfl, vis_ex _ _ s, r⟩
  · rcases h with ⟨xs, es, e1, e2, r⟩ | ⟨kvs, qs, e1, e2, r⟩ | ⟨kvs, qs, e1, e2, r⟩ | ⟨_, _, _, _, _, _, e2, _⟩
    · cases e2
    · cases e2
    · cases e2
      subst e1
      exact ⟨a, kvs, ev, e, r⟩
    · cases e2
end

section
variable {c : Ct} {da : DA} {O : List Addr} {H : Hp} {v : V}
theorem RepP.fdit {ps : List (D × D)} (h : RepP c da O H v (.fdit ps)) : ∃ a ob kvs, v = .ref a ∧ H a = some (.frz ob (.dT kvs)) ∧ RepKT c da (vis O H) kvs ps ∧ vis O H a = some (.frz ob (.dT kvs)) := by
  rcases h with h | ⟨a, o, ev, e, h⟩
  · cases h with
    | fdT s r => exact ⟨_, _, _, rfl, vis_ex _ _ s, r, s⟩
  · rcases h with ⟨_, _, _, e, _⟩ | ⟨_, _, _, e, _⟩ | ⟨_, _, _, e, _⟩ | ⟨_, _, _, _, _, _, e, _⟩ <;> cases e
end

/-! ### operations on what is looked at -/
inductive AllP (c : Ct) (da : DA) (O : List Addr) (H : Hp) : List V → List D → Prop
  | nil : AllP c da O H [] []
  | cons {v : V} {d : D} {vs : List V} {ds : List D} : RepP c da O H v d → AllP c da O H vs ds → AllP c da O H (v :: vs) (d :: ds)
/-- a plain operation by values: its arguments are looked at, its value is new -/
def rPure (c : Ct) (g : List D → Option RV) : List V → Hp → VK → Prop := fun xs H Q => ∃ da O ds r, (∀ a ∈ O, ∃ o, H a = some o ∧ NT o) ∧ AllP c da O H xs ds ∧ g ds = some r ∧ ∀ v H', Ex H H' → RepN c da O H H' r v → Q v H'
def rP2 (c : Ct) (g : D → D → Option RV) : R2 := fun x y H Q => ∃ da O d1 d2 r, (∀ a ∈ O, ∃ o, H a = some o ∧ NT o) ∧ RepP c da O H x d1 ∧ RepP c da O H y d2 ∧ g d1 d2 = some r ∧ ∀ v H', Ex H H' → RepN c da O H H' r v → Q v H'
def rP1 (c : Ct) (g : D → Option RV) : V → Hp → VK → Prop := fun x H Q => ∃ da O d1 r, (∀ a ∈ O, ∃ o, H a = some o ∧ NT o) ∧ RepP c da O H x d1 ∧ g d1 = some r ∧ ∀ v H', Ex H H' → RepN c da O H H' r v → Q v H'
def lift1 (g : D → Option RV) (r1 : RV) : M RV := fun ρ w => match peek ρ w r1 with
  | some d1 => (match g d1 with | some r => some (r, ρ, w) | none => none)
  | none => none
def lift2 (g : D → D → Option RV) (r1 r2 : RV) : M RV := fun ρ w => match peek ρ w r1 with
  | some d1 => (match peek ρ w r2 with
    | some d2 => (match g d1 d2 with | some r => some (r, ρ, w) | none => none)
    | none => none)
  | none => none
def peeks (ρ : Env) (w : W) : List RV → Option (List D)
  | [] => some []
  | r :: rs => match peek ρ w r with
    | some d => (match peeks ρ w rs with | some ds => some (d :: ds) | none => none)
    | none => none
def liftN (g : List D → Option RV) (rs : List RV) : M RV := fun ρ w => match peeks ρ w rs with
  | some ds => (match g ds with | some r => some (r, ρ, w) | none => none)
  | none => none
theorem lift1_some {g : D → Option RV} {r1 : RV} {ρ : Env} {w : W} {z : RV × Env × W} (h : lift1 g r1 ρ w = some z) : ∃ d1 r, peek ρ w r1 = some d1 ∧ g d1 = some r ∧ z = (r, ρ, w) := by
  unfold lift1 at h
  split at h
  · rename_i d1 e1
    split at h
    · rename_i r e
      exact ⟨d1, r, e1, e, (Option.some.inj h).symm⟩
    · cases h
  · cases h
theorem lift2_some {g : D → D → Option RV} {r1 r2 : RV} {ρ : Env} {w : W} {z : RV × Env × W} (h : lift2 g r1 r2 ρ w = some z) : ∃ d1 d2 r, peek ρ w r1 = some d1 ∧ peek ρ w r2 = some d2 ∧ g d1 d2 = some r ∧ z = (r, ρ, w) := by
  unfold lift2 at h
  split at h
  · rename_i d1 e1
    split at h
    · rename_i d2 e2
      split at h
      · rename_i r e
        exact ⟨d1, d2, r, e1, e2, e, (Option.some.inj h).symm⟩
      · cases h
    · cases h
  · cases h
theorem liftN_some {g : List D → Option RV} {rs : List RV} {ρ : Env} {w : W} {z : RV × Env × W} (h : liftN g rs ρ w = some z) : ∃ ds r, peeks ρ w rs = some ds ∧ g ds = some r ∧ z = (r, ρ, w) := by
  unfold liftN at h
  split at h
  · rename_i d1 e1
    split at h
    · rename_i r e
      exact ⟨d1, r, e1, e, (Option.some.inj h).symm⟩
    · cases h
  · cases h
theorem HoldAll.peeks {c : Ct} {F : Fm} {O : List Addr} {ρ : Env} {w : W} {σ : L2.St} {H : Hp} (S : SR c F O ρ w σ H) : ∀ {rs : List RV} {vs : List V} {ds : List D}, HoldAll c F O σ H rs vs → peeks ρ w rs = some ds → AllP c F.dr.da O H vs ds
  | _, _, _, .nil, e => by
    cases e
    exact .nil
  | _, _, _, .cons h r, e => by
    unfold FD.peeks at e
    split at e
    · rename_i d e1
      split at e
      · rename_i ds e2
        cases e
        exact .cons (h.peek S e1) (HoldAll.peeks S r e2)
      · cases e
    · cases e

section
variable {X : Cx} {a b e : Expr} {pos : Pos} {fa fb fe : M RV}
theorem tE_then {c : Ct} {F : Fm} {O : List Addr} {ρ : Env} {w : W} {σ : L2.St} {H : Hp} {f : M RV} {β : Type} {k : RV → M β} {z : β × Env × W} (S : SR c F O ρ w σ H) (h : bindM f k ρ w = some z) {Q : VK}
    (q : ∀ v O1 ρ1 w1 H1 r, SR c F O1 ρ1 w1 σ H1 → Ex (vis O H) (vis O1 H1) → RepR c F (vis O H) O1 ρ1 w1 σ H1 r v → k r ρ1 w1 = some z → Q v H1) : tE c F f σ H Q := by
  obtain ⟨r, ρ1, w1, e1, e2⟩ := bindM_some h
  exact ⟨O, ρ, w, r, ρ1, w1, S, e1, fun v O1 H1 S1 x R => q v O1 ρ1 w1 H1 r S1 x R e2⟩
theorem tT_then {c : Ct} {F : Fm} {O : List Addr} {ρ : Env} {w : W} {σ : L2.St} {H : Hp} {f : M Bool} {β : Type} {k : Bool → M β} {z : β × Env × W} (S : SR c F O ρ w σ H) (h : bindM f k ρ w = some z) {Q : Bool → Hp → Prop}
    (q : ∀ b O1 ρ1 w1 H1, SR c F O1 ρ1 w1 σ H1 → Ex (vis O H) (vis O1 H1) → k b ρ1 w1 = some z → Q b H1) : tT c F f σ H Q := by
  obtain ⟨r, ρ1, w1, e1, e2⟩ := bindM_some h
  exact ⟨O, ρ, w, r, ρ1, w1, S, e1, fun O1 H1 S1 x => q r O1 ρ1 w1 H1 S1 x e2⟩
theorem tA_then {c : Ct} {F : Fm} {O : List Addr} {ρ : Env} {w : W} {σ : L2.St} {H : Hp} {f : M (List RV)} {β : Type} {k : List RV → M β} {z : β × Env × W} (S : SR c F O ρ w σ H) (h : bindM f k ρ w = some z) {Q : List V → Hp → Prop}
    (q : ∀ vs O1 ρ1 w1 H1 rs, SR c F O1 ρ1 w1 σ H1 → Ex (vis O H) (vis O1 H1) → HoldAll c F O1 σ H1 rs vs → f ρ w = some (rs, ρ1, w1) → k rs ρ1 w1 = some z → Q vs H1) : tA c F f σ H Q := by
  obtain ⟨r, ρ1, w1, e1, e2⟩ := bindM_some h
  exact ⟨O, ρ, w, r, ρ1, w1, S, e1, fun v O1 H1 S1 x R => q v O1 ρ1 w1 H1 r S1 x R e1 e2⟩

/-! ### names, constants -/
theorem fe_c {v : V} {d : D} (h : PE X e (tC v)) (r : ∀ c da G, Rep c da G v d) : FE X e (pureM (.sh d)) := fun F => PE.wk h fun σ H Q q => by
  obtain ⟨O, ρ, w, r', ρ', w', S, e, k⟩ := q
  cases e
  exact k v O H S (Ex.refl _) (r _ _ _)
theorem fe_int {i : Int} {j : Nat} : FE X (.Constant (.int i) j pos) (pureM (.sh (.int i))) := fe_c pe_int fun _ _ _ => .int i
theorem fe_bl {b : Bool} {j : Nat} : FE X (.Constant (.bool b) j pos) (pureM (.sh (.bl b))) := fe_c pe_bl fun _ _ _ => .bl b
theorem fe_non {j : Nat} : FE X (.Constant .none j pos) (pureM (.sh .non)) := fe_c pe_non fun _ _ _ => .non
theorem fe_str {x : Str} {j : Nat} : FE X (.Constant (.str x) j pos) (pureM (.sh (.str x))) := fe_c pe_str fun _ _ _ => .str x
def varM (i : Nat) : M RV := fun ρ w => match ρ[i]? with
  | some (some (.val d)) => some (.sh d, ρ, w)
  | some (some (.own _)) => some (.ow i, ρ, w)
  | _ => none
theorem fe_var {i : Nat} {x : Str} (hN : X.N[i]? = some x) (hv : Vis X.env.scope x) (hd : (x == ("__debug__" : Str)) = false := by decide) (hcd : (x == ("__classdict__" : Str)) = false := by decide) : FE X (.Name x pos) (varM i) := fun F => PE.wk (pe_var hN hv hd hcd) fun σ H Q q => by
  obtain ⟨O, ρ, w, r', ρ', w', S, e, k⟩ := q
  unfold varM at e
  split at e
  · rename_i d h
    cases e
    obtain ⟨v, h1, h2⟩ := S.val i d h
    exact ⟨v, h1, k v O H S (Ex.refl _) h2⟩
  · rename_i d h
    cases e
    obtain ⟨a, o, h1, h2⟩ := S.own i d h
    exact ⟨_, h1, k _ O H S (Ex.refl _) ⟨h1, d, h⟩⟩
  · cases e
theorem fe_glob {x : Str} {v : V} {u : Value} {d : D} (hg : Gl X x) (hm : X.mg x = some u) (r : RelV v u) (rd : ∀ da G, Rep (ct X) da G v d) (hd : (x == ("__debug__" : Str)) = false := by decide) : FE X (.Name x pos) (pureM (.sh d)) := fun F => PE.wk (pe_glob hg hm r hd) fun σ H Q q => by
  obtain ⟨O, ρ, w, r', ρ', w', S, e, k⟩ := q
  cases e
  exact k v O H S (Ex.refl _) (rd _ _)

/-! ### operators -/
def op2M (g : D → D → Option RV) (fa fb : M RV) : M RV := bindM fa fun r1 => bindM fb fun r2 => lift2 g r1 r2
theorem op2_read {c : Ct} {F : Fm} {g : D → D → Option RV} {σ : L2.St} {H : Hp} {Q : VK} (h : tE c F (op2M g fa fb) σ H Q) : tOp (rP2 c g) (tE c F fa) (tE c F fb) σ H Q := by
  obtain ⟨O, ρ, w, r, ρ', w', S, e, k⟩ := h
  refine tE_then S e fun x O1 ρ1 w1 H1 r1 S1 e1 R1 h1 => ?_
  refine tE_then S1 h1 fun y O2 ρ2 w2 H2 r2 S2 e2 R2 h2 => ?_
  obtain ⟨d1, d2, r', p1, p2, eg, ez⟩ := lift2_some h2
  cases ez
  exact ⟨F.dr.da, O2, d1, d2, r, S2.trk, (R1.hold.mono e2).peek S2 p1, R2.hold.peek S2 p2, eg, fun v H3 e3 n => k v O2 H3 (S2.grow e3) ((e1.trans e2).trans (vis_mono e3)) ((n.out S2 e3).less (e1.trans e2))⟩
theorem fe_op {op : Operator} {g : D → D → Option RV} (ho : OpR X (binaryOp op) (rP2 (ct X) g)) (ha : FE X a fa) (hb : FE X b fb) : FE X (.BinOp a op b pos) (op2M g fa fb) := fun F =>
  PE.wk (pe_op ho (ha F) (hb F)) fun σ H Q h => op2_read h
theorem fe_cmp {op : CmpOp} {g : D → D → Option RV} (ho : OpR X (compareOp op) (rP2 (ct X) g)) (ha : FE X a fa) (hb : FE X b fb) (hm : behindInMarks op b = false) : FE X (.Compare a [op] [b] pos) (op2M g fa fb) := fun F =>
  PE.wk (pe_cmpR ho (ha F) (hb F) hm) fun σ H Q h => op2_read h
def op1M (g : D → Option RV) (fa : M RV) : M RV := bindM fa fun r1 => lift1 g r1
theorem fe_un {op : UnaryOp} {g : D → Option RV} (ho : UnR X (unaryOp op) (rP1 (ct X) g)) (ha : FE X a fa) : FE X (.UnaryOp op a pos) (op1M g fa) := fun F =>
  PE.wk (pe_un ho (ha F)) fun σ H Q h => by
    obtain ⟨O, ρ, w, r, ρ', w', S, e, k⟩ := h
    refine tE_then S e fun x O1 ρ1 w1 H1 r1 S1 e1 R1 h1 => ?_
    obtain ⟨d1, r', p1, eg, ez⟩ := lift1_some h1
    cases ez
    exact ⟨F.dr.da, O1, d1, r, S1.trk, R1.hold.peek S1 p1, eg, fun v H3 e3 n => k v O1 H3 (S1.grow e3) (e1.trans (vis_mono e3)) ((n.out S1 e3).less e1)⟩

/-! ### tests -/
def asB : RV → Option Bool
  | .sh (.bl b) => some b
  | _ => none
def boolM (f : M RV) : M Bool := bindM f fun r => fun ρ w => match asB r with
  | some b => some (b, ρ, w)
  | none => none
theorem boolM_some {r : RV} {ρ : Env} {w : W} {z : Bool × Env × W} (h : (match asB r with | some b => some (b, ρ, w) | none => none) = some z) : ∃ b, r = .sh (.bl b) ∧ z = (b, ρ, w) := by
  split at h
  · rename_i b e
    unfold asB at e
    split at e
    · cases e
      exact ⟨b, rfl, (Option.some.inj h).symm⟩
    · cases e
  · cases h
theorem bool_read {c : Ct} {F : Fm} {f : M RV} {σ : L2.St} {H : Hp} {Q : Bool → Hp → Prop} (h : tT c F (boolM f) σ H Q) : tB (tE c F f) σ H Q := by
  obtain ⟨O, ρ, w, b, ρ', w', S, e, k⟩ := h
  refine tE_then S e fun x O1 ρ1 w1 H1 r1 S1 e1 R1 h1 => ?_
  obtain ⟨b', er, ez⟩ := boolM_some h1
  subst er
  cases ez
  cases R1
  exact ⟨_, rfl, k O1 H1 S1 e1⟩
theorem ft_val (h : FE X e fe) (he : ∀ whole, isTrue e X.env whole = (do let v ← whole; standAt e.pos; holding [v] (truthy v)) := by intro _; rfl) : FT X e (boolM fe) := fun F =>
  PT.wk (pt_val (h F) he) fun σ H Q q => bool_read q
theorem ft_cmp {op : CmpOp} {g : D → D → Option RV} (ho : OpR X (compareOp op) (rP2 (ct X) g)) (ha : FE X a fa) (hb : FE X b fb) (hm : behindInMarks op b = false) : FT X (.Compare a [op] [b] pos) (boolM (op2M g fa fb)) := fun F =>
  PT.wk (pt_cmpR ho (ha F) (hb F) hm) fun σ H Q q => by
    have q' := bool_read q
    exact op2_read q'
variable {ta tb : M Bool} {rest : List Expr}
def andT (ta tb : M Bool) : M Bool := bindM ta fun b => if b then tb else pureM false
def orT (ta tb : M Bool) : M Bool := bindM ta fun b => if b then pureM true else tb
def notT (ta : M Bool) : M Bool := bindM ta fun b => pureM (!b)
theorem fw_and1 (ha : FT X a ta) : FW X (.BoolOp .And [a] pos) ta := fun F => pw_and1 (ha F)
theorem fw_or1 (ha : FT X a ta) : FW X (.BoolOp .Or [a] pos) ta := fun F => pw_or1 (ha F)
theorem fw_and (ha : FT X a ta) (hb : FW X (.BoolOp .And (b :: rest) pos) tb) : FW X (.BoolOp .And (a :: b :: rest) pos) (andT ta tb) := fun F => PW.wk (pw_and (ha F) (hb F)) fun σ H Q q => by
  obtain ⟨O, ρ, w, r, ρ', w', S, e, k⟩ := q
  refine tT_then S e fun b O1 ρ1 w1 H1 S1 e1 h1 => ?_
  cases b with
  | true => exact ⟨O1, ρ1, w1, r, ρ', w', S1, h1, fun O2 H2 S2 e2 => k O2 H2 S2 (e1.trans e2)⟩
  | false =>
    cases h1
    exact k O1 H1 S1 e1
theorem fw_or (ha : FT X a ta) (hb : FW X (.BoolOp .Or (b :: rest) pos) tb) : FW X (.BoolOp .Or (a :: b :: rest) pos) (orT ta tb) := fun F => PW.wk (pw_or (ha F) (hb F)) fun σ H Q q => by
  obtain ⟨O, ρ, w, r, ρ', w', S, e, k⟩ := q
  refine tT_then S e fun b O1 ρ1 w1 H1 S1 e1 h1 => ?_
  cases b with
  | false => exact ⟨O1, ρ1, w1, r, ρ', w', S1, h1, fun O2 H2 S2 e2 => k O2 H2 S2 (e1.trans e2)⟩
  | true =>
    cases h1
    exact k O1 H1 S1 e1
theorem ft_w {t : M Bool} (h : FW X e t) : FT X e t := fun F => (h F).pt
theorem ft_not (ha : FT X a ta) : FT X (.UnaryOp .Not a pos) (notT ta) := fun F => PT.wk (pt_not (ha F)) fun σ H Q q => by
  obtain ⟨O, ρ, w, r, ρ', w', S, e, k⟩ := q
  refine tT_then S e fun b O1 ρ1 w1 H1 S1 e1 h1 => ?_
  cases h1
  exact k O1 H1 S1 e1
/-- as values: truth values but for the last -/
def andM (fa fb : M RV) : M RV := bindM (boolM fa) fun b => if b then fb else pureM (.sh (.bl false))
def orM (fa fb : M RV) : M RV := bindM (boolM fa) fun b => if b then pureM (.sh (.bl true)) else fb
def notM (fa : M RV) : M RV := bindM (boolM fa) fun b => pureM (.sh (.bl (!b)))
theorem boolM_then {c : Ct} {F : Fm} {O : List Addr} {ρ : Env} {w : W} {σ : L2.St} {H : Hp} {f : M RV} {β : Type} {k : Bool → M β} {z : β × Env × W} (S : SR c F O ρ w σ H) (h : bindM (boolM f) k ρ w = some z) {Q : VK}
    (q : ∀ b O1 ρ1 w1 H1, SR c F O1 ρ1 w1 σ H1 → Ex (vis O H) (vis O1 H1) → k b ρ1 w1 = some z → Q (.bl b) H1) : tE c F f σ H Q := by
  obtain ⟨b, ρ1, w1, e1, e2⟩ := bindM_some h
  refine tE_then S e1 fun x O1 ρ1' w1' H1 r1 S1 x1 R1 h1 => ?_
  obtain ⟨b', er, ez⟩ := boolM_some h1
  subst er
  cases ez
  cases R1
  exact q _ O1 _ _ H1 S1 x1 e2
theorem fe_one {op : BoolOp} (h : FE X a fa) : FE X (.BoolOp op [a] pos) fa := fun F => pe_one (h F)
theorem fe_and (ha : FE X a fa) (hb : FE X (.BoolOp .And (b :: rest) pos) fb) : FE X (.BoolOp .And (a :: b :: rest) pos) (andM fa fb) := fun F => PE.wk (pe_and (ha F) (hb F)) fun σ H Q q => by
  obtain ⟨O, ρ, w, r, ρ', w', S, e, k⟩ := q
  refine boolM_then S e fun b O1 ρ1 w1 H1 S1 e1 h1 => ⟨b, rfl, ?_⟩
  cases b with
  | true => exact ⟨O1, ρ1, w1, r, ρ', w', S1, h1, fun v O2 H2 S2 e2 R => k v O2 H2 S2 (e1.trans e2) (R.less e1)⟩
  | false =>
    cases h1
    exact k _ O1 H1 S1 e1 (Rep.bl false)
def ifM {α : Type} (t : M Bool) (f g : M α) : M α := bindM t fun b => if b then f else g
theorem fe_ifExp {t : Expr} (ht : FT X t ta) (ha : FE X a fa) (hb : FE X b fb) : FE X (.IfExp t a b pos) (ifM ta fa fb) := fun F => PE.wk (pe_ifExp (ht F) (ha F) (hb F)) fun σ H Q q => by
  obtain ⟨O, ρ, w, r, ρ', w', S, e, k⟩ := q
  refine tT_then S e fun b O1 ρ1 w1 H1 S1 e1 h1 => ?_
  cases b with
  | false => exact ⟨O1, ρ1, w1, r, ρ', w', S1, h1, fun v O2 H2 S2 e2 R => k v O2 H2 S2 (e1.trans e2) (R.less e1)⟩
  | true => exact ⟨O1, ρ1, w1, r, ρ', w', S1, h1, fun v O2 H2 S2 e2 R => k v O2 H2 S2 (e1.trans e2) (R.less e1)⟩

/-! ### argument lists -/
def consA (f : M RV) (g : M (List RV)) : M (List RV) := bindM f fun r => bindM g fun rs => pureM (r :: rs)
theorem fa_nil : FA X [] (pureM []) := ⟨fun F => PA.wk pa_nil fun σ H Q q => by
  obtain ⟨O, ρ, w, r, ρ', w', S, e, k⟩ := q
  cases e
  exact k [] O H S (Ex.refl _) .nil, fun ρ w rs ρ' w' h => by cases h; rfl⟩
theorem fa_cons {es : List Expr} {g : M (List RV)} (ha : FE X e fe) (hr : FA X es g) (hs : starEach (e :: es) X.env = (false, eval e X.env) :: starEach es X.env := by rfl) : FA X (e :: es) (consA fe g) := ⟨fun F => PA.wk (pa_cons (ha F) (hr.run F) hs) fun σ H Q q => by
  obtain ⟨O, ρ, w, r, ρ', w', S, e, k⟩ := q
  refine tE_then S e fun x O1 ρ1 w1 H1 r1 S1 e1 R1 h1 => ?_
  refine tA_then S1 h1 fun vs O2 ρ2 w2 H2 rs S2 e2 R2 _ h2 => ?_
  cases h2
  exact k (x :: vs) O2 H2 S2 (e1.trans e2) (.cons (R1.hold.mono e2) R2), fun ρ w rs ρ' w' h => by
    obtain ⟨r, ρ1, w1, _, h1⟩ := bindM_some h
    obtain ⟨rs', ρ2, w2, h2, h3⟩ := bindM_some h1
    cases h3
    simp [hr.len _ _ _ _ _ h2]⟩

/-! ### what escapes -/
def escR : RV → M D
  | .sh d => pureM d
  | .fr d => pureM d
  | .ob k => pureM (.obj k)
  | .ow i => fun ρ w => match ρ[i]? with
    | some (some (.own d)) => some (d, ρ.set i (some (.val d)), w)
    | some (some (.val d)) => some (d, ρ, w)
    | _ => none
def escAll : List RV → M (List D)
  | [] => pureM []
  | r :: rs => bindM (escR r) fun d => bindM (escAll rs) fun ds => pureM (d :: ds)
end

section
variable {c : Ct} {F : Fm} {O : List Addr} {ρ : Env} {w : W} {σ : L2.St} {H : Hp}
theorem getElem?_set_some {α : Type} {l : List α} {i j : Nat} {x y : α} (h : (l.set i x)[j]? = some y) : (i = j ∧ x = y) ∨ (i ≠ j ∧ l[j]? = some y) := by
  by_cases e : i = j
  · subst e
    by_cases hl : i < l.length
    · rw [List.getElem?_set_self hl] at h
      exact .inl ⟨rfl, Option.some.inj h⟩
    · rw [List.getElem?_eq_none (by simpa using hl)] at h
      cases h
  · rw [List.getElem?_set_ne e] at h
    exact .inr ⟨e, h⟩
/-- an owned thing is given away: from now on it is only looked at -/
theorem SR.freezeE {i : Nat} {d : D} (S : SR c F O ρ w σ H) (h : ρ[i]? = some (some (Slot.own d))) :
    ∃ a O', σ[i]? = some (some (V.ref a)) ∧ SR c F O' (ρ.set i (some (.val d))) w σ H ∧ Ex (vis O H) (vis O' H) ∧ Rep c F.dr.da (vis O' H) (.ref a) d ∧ a ∉ O' ∧ a ∈ O ∧ a ∉ F.O0 ∧ ∃ o, H a = some o ∧ Obj c F.dr.da (vis O H) o d := by
  obtain ⟨a, o, h1, h2, h3, h4, h5⟩ := S.own i d h
  have sub : ∀ b, b ∈ O.filter (fun b => decide (b ≠ a)) ↔ b ∈ O ∧ b ≠ a := fun b => by simp [List.mem_filter]
  have k : Ex (vis O H) (vis (O.filter (fun b => decide (b ≠ a))) H) := vis_sub fun b hb => ((sub b).mp hb).1
  have na : a ∉ O.filter (fun b => decide (b ≠ a)) := fun z => ((sub a).mp z).2 rfl
  have rp : Rep c F.dr.da (vis (O.filter (fun b => decide (b ≠ a))) H) (.ref a) d := (h5.mono k).rep (by rw [vis_out na]; exact h4)
  refine ⟨a, _, h1, ⟨by rw [List.length_set]; exact S.len, S.base, fun b hb => S.new b ((sub b).mp hb).1, fun b hb => (sub b).mpr ⟨S.sub b hb, fun z => h3 (z ▸ hb)⟩, S.drs, fun b hb => S.trk b ((sub b).mp hb).1, S.draw.to (Ex.refl _) k, fun j e q => ?_, fun j e q => ?_, fun j j' e e' b q q' => ?_⟩, k, rp, na, h2, h3, o, h4, h5⟩
  · rcases getElem?_set_some q with ⟨rfl, z⟩ | ⟨_, q⟩
    · cases z
      exact ⟨_, h1, rp⟩
    · obtain ⟨v, q1, q2⟩ := S.val j e q
      exact ⟨v, q1, q2.mono k⟩
  · rcases getElem?_set_some q with ⟨rfl, z⟩ | ⟨ne, q⟩
    · cases z
    · obtain ⟨b, u, q1, q2, q3, q4, q5⟩ := S.own j e q
      refine ⟨b, u, q1, (sub b).mpr ⟨q2, fun z => ?_⟩, q3, q4, q5.mono k⟩
      rw [z] at q1
      exact ne (S.uni i j d e a h q h1 q1)
  · rcases getElem?_set_some q with ⟨rfl, z⟩ | ⟨ne, q⟩
    · cases z
    · rcases getElem?_set_some q' with ⟨rfl, z⟩ | ⟨ne', q'⟩
      · cases z
      · exact S.uni j j' e e' b q q'
theorem SR.freeze {i : Nat} {d : D} (S : SR c F O ρ w σ H) (h : ρ[i]? = some (some (Slot.own d))) :
    ∃ a O', σ[i]? = some (some (V.ref a)) ∧ SR c F O' (ρ.set i (some (.val d))) w σ H ∧ Ex (vis O H) (vis O' H) ∧ Rep c F.dr.da (vis O' H) (.ref a) d := by
  obtain ⟨a, O', h1, h2, h3, h4, _⟩ := S.freezeE h
  exact ⟨a, O', h1, h2, h3, h4⟩
theorem escR_ok {r : RV} {v : V} {d : D} {ρ' : Env} {w' : W} (S : SR c F O ρ w σ H) (h : Hold c F O σ H r v) (e : escR r ρ w = some (d, ρ', w')) :
    w' = w ∧ ∃ O', SR c F O' ρ' w σ H ∧ Ex (vis O H) (vis O' H) ∧ Rep c F.dr.da (vis O' H) v d := by
  cases r with
  | sh d' =>
    cases e
    exact ⟨rfl, O, S, Ex.refl _, h⟩
  | fr d' =>
    cases e
    exact ⟨rfl, O, S, Ex.refl _, h⟩
  | ob k =>
    cases e
    obtain ⟨a, rfl, ha⟩ := h
    exact ⟨rfl, O, S, Ex.refl _, .obj ha⟩
  | ow i =>
    have h' : σ[i]? = some (some v) := h
    simp only [escR] at e
    split at e
    · rename_i d' q
      cases e
      obtain ⟨a, O', h1, S', k, r⟩ := S.freeze q
      rw [h'] at h1
      cases h1
      exact ⟨rfl, O', S', k, r⟩
    · rename_i d' q
      cases e
      obtain ⟨u, h1, h2⟩ := S.val i _ q
      rw [h'] at h1
      cases h1
      exact ⟨rfl, O, S, Ex.refl _, h2⟩
    · cases e
theorem escAll_ok : ∀ {rs : List RV} {vs : List V} {ds : List D} {ρ : Env} {ρ' : Env} {w' : W} {O : List Addr}, SR c F O ρ w σ H → HoldAll c F O σ H rs vs → escAll rs ρ w = some (ds, ρ', w') →
    w' = w ∧ ∃ O', SR c F O' ρ' w σ H ∧ Ex (vis O H) (vis O' H) ∧ RepAll c F.dr.da (vis O' H) vs ds
  | _, _, _, _, _, _, O, S, .nil, e => by
    cases e
    exact ⟨rfl, O, S, Ex.refl _, .nil⟩
  | _, _, _, _, _, _, O, S, .cons h hr, e => by
    obtain ⟨d, ρ1, w1, e1, e2⟩ := bindM_some e
    obtain ⟨ds, ρ2, w2, e3, e4⟩ := bindM_some e2
    obtain ⟨ew, O1, S1, k1, r1⟩ := escR_ok S h e1
    rw [ew] at e3
    obtain ⟨ew2, O2, S2, k2, r2⟩ := escAll_ok S1 (hr.mono k1) e3
    cases e4
    exact ⟨ew2, O2, S2, k1.trans k2, .cons (r1.mono k2) r2⟩
end
section
variable {X : Cx} {es : List Expr} {pos : Pos} {fa : M (List RV)}
def tupM (fa : M (List RV)) : M RV := bindM fa fun rs => bindM (escAll rs) fun ds => pureM (.sh (.tup ds))
def lstM (fa : M (List RV)) : M RV := bindM fa fun rs => bindM (escAll rs) fun ds => pureM (.fr (.lst ds))
theorem small_fits {n : Nat} (h : n ≤ 1000000) : n ≤ sizeLine := Nat.le_trans h (by decide)
theorem fe_tup {x1 : Nat} (h : FA X es fa) (hl : es.length ≤ 1000000 := by decide) : FE X (.Tuple es x1 pos) (tupM fa) := fun F => PE.wk (pe_tup (h.run F)) fun σ H Q q => by
  obtain ⟨O, ρ, w, r, ρ', w', S, e, k⟩ := q
  refine tA_then S e fun vs O1 ρ1 w1 H1 rs S1 e1 R1 f1 h1 => ?_
  obtain ⟨ds, ρ2, w2, h2, h3⟩ := bindM_some h1
  obtain ⟨rfl, O2, S2, k2, r2⟩ := escAll_ok S1 R1 h2
  cases h3
  have hv : vs.length ≤ 1000000 := by rw [← R1.length, h.len _ _ _ _ _ f1]; exact hl
  refine ⟨small_fits hv, fun p np => ?_⟩
  have x2 : Ex H1 (upd H1 p (.tup vs)) := Ex.new np
  have nO : p ∉ O2 := fun z => by
    obtain ⟨o, q, _⟩ := S2.trk p z
    rw [np] at q
    cases q
  refine k _ O2 _ (S2.grow x2) ((e1.trans k2).trans (vis_mono x2)) (.tup ?_ (r2.mono (vis_mono x2)))
  rw [vis_out nO]
  exact upd_same
theorem fe_lst (h : FA X es fa) (hl : es.length ≤ 1000000 := by decide) : FE X (.List es pos) (lstM fa) := fun F => PE.wk (pe_lst (h.run F)) fun σ H Q q => by
  obtain ⟨O, ρ, w, r, ρ', w', S, e, k⟩ := q
  refine tA_then S e fun vs O1 ρ1 w1 H1 rs S1 e1 R1 f1 h1 => ?_
  obtain ⟨ds, ρ2, w2, h2, h3⟩ := bindM_some h1
  obtain ⟨rfl, O2, S2, k2, r2⟩ := escAll_ok S1 R1 h2
  cases h3
  have hv : vs.length ≤ 1000000 := by rw [← R1.length, h.len _ _ _ _ _ f1]; exact hl
  refine ⟨small_fits hv, fun p np => ?_⟩
  have x2 : Ex H1 (upd H1 p (.lst vs)) := Ex.new np
  obtain ⟨S3, n3, k3⟩ := S2.hide np x2 upd_same
  exact k _ O2 _ (S2.grow x2) ((e1.trans k2).trans (vis_mono x2)) ⟨p, _, rfl, n3, S3, upd_same, .inl ⟨vs, ds, rfl, rfl, r2.mono k3⟩, (e1.trans k2).trans k3⟩
end
end FD

end sec_FD2
section sec_FD3
set_option maxRecDepth 100000
set_option maxHeartbeats 5000000
/-! FD3: calls, objects, statements, loops. -/
namespace FD
open PySem L2
variable [Tabl]

/-- all but the draws is kept -/
def Kp (dr : Dr) (H H' : Hp) : Prop := ∀ a o, H a = some o → a ∉ dr.as → H' a = some o
/-- what is hidden behind a call: what came out new, too -/
def hidO : RV → V → List Addr → List Addr
  | .fr _, .ref a, O => a :: O
  | _, _, O => O
theorem DS.un {c : Ct} {dr : Dr} {w : W} {O : List Addr} {H : Hp} {r : RV} {v : V} (h : DS c dr w (hidO r v O) H) : DS c dr w O H := by
  have e : Ex (vis (hidO r v O) H) (vis O H) := vis_sub fun a m => by
    unfold hidO
    split
    · exact List.mem_cons_of_mem _ m
    · exact m
  exact ⟨h.d, h.s.mono e fun _ _ _ z => z⟩
theorem DS.pop {c : Ct} {dr : Dr} {w : W} {O : List Addr} {H : Hp} {a : Addr} (h : DS c dr w (a :: O) H) : DS c dr w O H := ⟨h.d, h.s.mono vis_cons fun _ _ _ z => z⟩
/-- a def's promise in plain data -/
def spD (c : Ct) (n : Nat) (den : List D → W → Option (RV × W)) : Sp := fun vs H Q _ => ∃ dr O0 w ds r w', (∀ a ∈ dr.as, a ∈ O0) ∧ (∀ a ∈ O0, ∃ o, H a = some o ∧ NT o) ∧ DS c dr w O0 H ∧ RepAll c dr.da (vis O0 H) vs ds ∧ ds.length = n ∧ den ds w = some (r, w') ∧
  ∀ v H', Kp dr H H' → DS c dr w' (hidO r v O0) H' → RepN c dr.da O0 H H' r v → Q v H'

section
variable {c : Ct} {F : Fm} {O : List Addr} {ρ : Env} {w w' : W} {σ : L2.St} {H H' : Hp} {r : RV} {v : V}
theorem DS.mem {dr : Dr} {a : Addr} (hh : DS c dr w O H) (m : a ∈ dr.as) : ∃ o, H a = some o ∧ NT o := by
  have h := hh.d
  rcases List.mem_append.mp m with m | m
  · unfold Dr.ds at m
    split at m
    · rename_i t e
      obtain ⟨q1, q2, q3, _⟩ := h.1 t e
      simp only [List.mem_cons, List.not_mem_nil, or_false] at m
      rcases m with rfl | rfl | rfl
      · exact ⟨_, q1, fun _ z => nomatch z⟩
      · exact ⟨_, q2, fun _ z => nomatch z⟩
      · exact ⟨_, q3, fun _ z => nomatch z⟩
    · cases m
  · rcases List.mem_append.mp m with m | m
    · obtain ⟨p, hp, rfl⟩ := List.mem_map.mp m
      obtain ⟨ps, e, _⟩ := h.2 p hp
      exact ⟨_, e, fun _ z => nomatch z⟩
    · exact hh.s.trk m
theorem vis_kp {dr : Dr} (hd : ∀ a ∈ dr.as, a ∈ O) (k : Kp dr H H') : Ex (vis O H) (vis O H') := fun b o h => by
  obtain ⟨n, q⟩ := vis_some h
  rw [vis_out n]
  exact k b o q fun z => n (hd b z)
theorem SR.drO (S : SR c F O ρ w σ H) : ∀ a ∈ F.dr.as, a ∈ O := fun a h => S.sub a (S.drs a h)
theorem SR.kept (S : SR c F O ρ w σ H) (k : Kp F.dr H H') (hw : DS c F.dr w' O H') : SR c F O ρ w' σ H' where
  len := S.len
  base := fun a o h n => k _ _ (S.base a o h n) n
  new := S.new
  sub := S.sub
  drs := S.drs
  trk := fun a h => by
    by_cases q : a ∈ F.dr.as
    · exact hw.mem q
    · obtain ⟨o, e, nt⟩ := S.trk a h
      exact ⟨o, k _ _ e q, nt⟩
  draw := hw
  val := fun i d h => let ⟨v, h1, h2⟩ := S.val i d h; ⟨v, h1, h2.mono (vis_kp S.drO k)⟩
  own := fun i d h => let ⟨a, o, h1, h2, h3, h4, h5⟩ := S.own i d h; ⟨a, o, h1, h2, h3, k _ _ h4 fun z => h3 (S.drs a z), h5.mono (vis_kp S.drO k)⟩
  uni := S.uni
theorem SR.hideK {a : Addr} {o : HO} (S : SR c F O ρ w σ H) (n : H a = none) (k : Kp F.dr H H') (hw : DS c F.dr w' (a :: O) H') (q : H' a = some o) (nt : NT o) : SR c F (a :: O) ρ w' σ H' ∧ a ∉ O ∧ Ex (vis O H) (vis (a :: O) H') := by
  have S' := S.kept k ⟨hw.d, hw.s.mono vis_cons fun _ _ _ z => z⟩
  have nO : a ∉ O := fun z => by
    obtain ⟨u, hu, _⟩ := S.trk a z
    rw [n] at hu
    cases hu
  have k : Ex (vis O H) (vis (a :: O) H') := fun b u hb => by
    obtain ⟨m, hb⟩ := vis_some hb
    rw [vis_out fun z => ?_]
    · exact k _ _ hb fun z => m (S.drO b z)
    · rcases List.mem_cons.mp z with z | z
      · rw [z, n] at hb
        cases hb
      · exact m z
  refine ⟨⟨S.len, S'.base, fun b h m => ?_, fun b h => List.mem_cons_of_mem _ (S.sub b h), S.drs, fun b h => ?_, hw, fun i d h => ?_, fun i d h => ?_, S'.uni⟩, nO, k⟩
  · rcases List.mem_cons.mp h with z | z
    · subst z
      cases z : F.H0 b with
      | none => rfl
      | some u =>
        have nd : b ∉ F.dr.as := fun y => m (S.drs b y)
        rw [S.base b u z nd] at n
        cases n
    · exact S.new b z m
  · rcases List.mem_cons.mp h with z | z
    · rw [z]
      exact ⟨o, q, nt⟩
    · exact S'.trk b z
  · obtain ⟨u, h1, h2⟩ := S.val i d h
    exact ⟨u, h1, h2.mono k⟩
  · obtain ⟨b, u, h1, h2, h3, h4, h5⟩ := S.own i d h
    obtain ⟨b', u', h1', _, _, h4', _⟩ := S'.own i d h
    rw [h1] at h1'
    cases h1'
    refine ⟨b, u', h1, List.mem_cons_of_mem _ h2, h3, h4', ?_⟩
    have e : u' = u := by
      have nb : b ∉ F.dr.as := fun z => h3 (S.drs b z)
      have z := ‹Kp F.dr H H'› _ _ h4 nb
      rw [z] at h4'
      exact (Option.some.inj h4').symm
    rw [e]
    exact h5.mono k
theorem RepN.outK (S : SR c F O ρ w σ H) (k : Kp F.dr H H') (hw : DS c F.dr w' (hidO r v O) H') (h : RepN c F.dr.da O H H' r v) : RepR c F (vis O H) O ρ w' σ H' r v := by
  cases r with
  | sh d => exact h
  | ow i => exact h.elim
  | ob i => exact h.elim
  | fr d =>
    obtain ⟨a, o, rfl, n, q, ob⟩ := h
    obtain ⟨S1, n1, k1⟩ := S.hideK n k hw q ob.nt
    exact ⟨a, o, rfl, n1, S1, q, ob, k1⟩
end

/-! ### forms of calls -/
/-- no argument is starred -/
abbrev Plain1 (X : Cx) (e : Expr) (es : List Expr) : Prop := starEach (e :: es) X.env = (false, eval e X.env) :: starEach es X.env
abbrev PlainR (X : Cx) (es : List Expr) (pos : Pos) : Prop := (backTo pos (starEach es X.env)).any (·.1) = false
abbrev NotDebug (x : Str) : Prop := (x == ("__debug__" : Str)) = false
/-- o.m(es) is run as the call of a method -/
abbrev MethRun (X : Cx) (o : Expr) (m : Str) (es : List Expr) (apos pos : Pos) (pl : Sem Bool) : Prop := eval (.Call (.Attribute o m apos) es [] pos) X.env = (do
  let self ← eval o X.env
  standAt apos.atName
  let (g, one) ← holding [self] (getMethod self m pl)
  callWith pos g one (backTo pos (starEach es X.env)) (backToKw pos (keywordEach [] X.env)))
/-! ### calls -/
structure CalD (P : Program) (w : World) (K : PySem.W.Frag) (mg : Str → Option Value) (base : Heap) (k : Nat) (x : Str) (n : Nat) (dd : List D) (den : List D → W → Option (RV × W)) : Prop where
  ex : ∃ (f : Addr) (fd : FuncData) (ps : List Str) (ds : List Value) (dvs : List V), FnOk P w K mg base CX0 k f fd ps (spD ⟨K, mg⟩ n den) ∧ mg x = some (.ref f) ∧ PySem.W.keepIn K (.ref f) = true ∧ Binds K fd ps ds ∧ Vals dvs ds ∧ ∀ da G, RepAll ⟨K, mg⟩ da G dvs dd
/-- a method m of the class cn -/
structure MetD (P : Program) (w : World) (K : PySem.W.Frag) (mg : Str → Option Value) (base : Heap) (k : Nat) (cn m : Str) (n : Nat) (dd : List D) (den : List D → W → Option (RV × W)) : Prop where
  ex : ∃ (C f : Addr) (fd : FuncData) (ps : List Str) (ds : List Value) (dvs : List V), mg cn = some (.ref C) ∧ Cls K C ∧ Meth K C m f ∧ FnOk P w K mg base CX0 k f fd ps (spD ⟨K, mg⟩ n den) ∧ Binds K fd ps ds ∧ Vals dvs ds ∧ ∀ da G, RepAll ⟨K, mg⟩ da G dvs dd
/-- a property of the class cn -/
structure PrpD (P : Program) (w : World) (K : PySem.W.Frag) (mg : Str → Option Value) (base : Heap) (k : Nat) (cn m : Str) (den : List D → W → Option (RV × W)) : Prop where
  ex : ∃ (C p g : Addr) (fd : FuncData) (ps : List Str), mg cn = some (.ref C) ∧ Cls K C ∧ PropOf K C m p g ∧ FnOk P w K mg base CX0 k g fd ps (spD ⟨K, mg⟩ 1 den) ∧ Binds K fd ps []
/-- an attribute of the class cn -/
structure FldD (K : PySem.W.Frag) (mg : Str → Option Value) (cn f : Str) : Prop where
  ex : ∃ C, mg cn = some (.ref C) ∧ Cls K C ∧ NoAttr K C f
def runD (den : List D → W → Option (RV × W)) (ds : List D) : M RV := fun ρ w => match den ds w with
  | some (r, w') => some (r, ρ, w')
  | none => none
theorem runD_some {den : List D → W → Option (RV × W)} {ds : List D} {ρ : Env} {w : W} {z : RV × Env × W} (h : runD den ds ρ w = some z) : ∃ r w', den ds w = some (r, w') ∧ z = (r, ρ, w') := by
  unfold runD at h
  split at h
  · rename_i r w' e
    exact ⟨r, w', e, (Option.some.inj h).symm⟩
  · cases h
def callM (den : List D → W → Option (RV × W)) (dd : List D) (fa : M (List RV)) : M RV := bindM fa fun rs => bindM (escAll rs) fun ds => runD den (ds ++ dd)
def alt {α : Type} (f g : M α) : M α := fun ρ w => match f ρ w with
  | some z => some z
  | none => g ρ w
theorem RepAll.len2 {c : Ct} {da : DA} {G : Hp} {vs : List V} {ds : List D} (h : RepAll c da G vs ds) : ds.length = vs.length := h.length.symm
section
variable {X : Cx} {e o : Expr} {es : List Expr} {pos p apos : Pos} {x m f cn : Str} {k j n : Nat} {dd : List D} {den : List D → W → Option (RV × W)} {fa : M (List RV)} {fo fe fe' : M RV}
theorem fe_alt (h1 : FE X e fe) (h2 : FE X e fe') : FE X e (alt fe fe') := fun F => ⟨fun pins s σ H Q I q => by
  obtain ⟨O, ρ, w, r, ρ', w', S, e, k⟩ := q
  unfold alt at e
  split at e
  · rename_i z ez
    cases e
    exact (h1 F).run pins s σ H Q I ⟨O, ρ, w, r, ρ', w', S, ez, k⟩
  · exact (h2 F).run pins s σ H Q I ⟨O, ρ, w, r, ρ', w', S, e, k⟩⟩
theorem sp_of {c : Ct} {F : Fm} {O : List Addr} {ρ : Env} {w w' : W} {σ : L2.St} {H : Hp} {vs : List V} {ds : List D} {r : RV} {Q : VK} {E : XK} {n : Nat} (S : SR c F O ρ w σ H) (hr : RepAll c F.dr.da (vis O H) vs ds) (hn : ds.length = n) (hd : den ds w = some (r, w'))
    (q : ∀ v H', SR c F O ρ w' σ H' → Ex (vis O H) (vis O H') → RepR c F (vis O H) O ρ w' σ H' r v → Q v H') : spD c n den vs H Q E :=
  ⟨F.dr, O, w, ds, r, w', S.drO, S.trk, S.draw, hr, hn, hd, fun v H' k hw n => q v H' (S.kept k hw.un) (vis_kp S.drO k) (n.outK S k hw)⟩
/-- f(..) -/
theorem fe_call (cl : CalD X.prog X.w X.K X.mg X.base k x n dd den) (hr : Room j X.A) (hg : Gl X x) (ha : FA X (e :: es) fa) (hk : k ≤ j := by decide) (hn : (e :: es).length + dd.length = n := by rfl)
    (hdb : NotDebug x := by decide) (he : Plain1 X e es := by rfl) (hpl : PlainR X es pos := by rfl) :
    FE X (.Call (.Name x p) (e :: es) [] pos) (callM den dd fa) := fun F => by
  obtain ⟨f, fd, ps, ds, dvs, FO, hm, kp, b, d, rd⟩ := cl.ex
  refine PE.wk (pe_call FO (hr.mono hk) hg hm kp b d pass0 (ha.run F) hdb he hpl) fun σ H Q q => ?_
  obtain ⟨O, ρ, w, r, ρ', w', S, e, k⟩ := q
  refine tA_then S e fun vs O1 ρ1 w1 H1 rs S1 e1 R1 f1 h1 => ?_
  obtain ⟨ds1, ρ2, w2, h2, h3⟩ := bindM_some h1
  obtain ⟨rfl, O2, S2, k2, r2⟩ := escAll_ok S1 R1 h2
  obtain ⟨r', w3, h4, ez⟩ := runD_some h3
  cases ez
  refine sp_of (E := E0) S2 (r2.append (rd _ _)) ?_ h4 fun v H' S3 e3 R3 => k v O2 H' S3 ((e1.trans k2).trans e3) (R3.less (e1.trans k2))
  rw [List.length_append, r2.len2, ← R1.length, ha.len _ _ _ _ _ f1]
  exact hn
/-- the receiver: an instance of cn whose own attributes do not hide m -/
def selfO (cn m : Str) (k : Nat) : M D := fun ρ w => match w.st[k]? with
  | some (.ins c' gs) => if c' = cn ∧ gs.lookup m = none then some (.obj k, ρ, w) else none
  | _ => none
def selfI (cn m : Str) : D → M D := fun d => match d with
  | .ins c' gs => if c' = cn ∧ gs.lookup m = none then pureM d else failM
  | _ => failM
def selfR (cn m : Str) : RV → M D
  | .ob k => selfO cn m k
  | r => bindM (escR r) (selfI cn m)
def methM (cn m : Str) (den : List D → W → Option (RV × W)) (dd : List D) (fo : M RV) (fa : M (List RV)) : M RV :=
  bindM fo fun r => bindM (selfR cn m r) fun d => bindM fa fun rs => bindM (escAll rs) fun ds => runD den (d :: (ds ++ dd))
theorem selfI_ok {c : Ct} {F : Fm} {O : List Addr} {ρ ρ' : Env} {w w' : W} {σ : L2.St} {H : Hp} {r : RV} {v : V} {d : D} (S : SR c F O ρ w σ H) (h : Hold c F O σ H r v) (e : bindM (escR r) (selfI cn m) ρ w = some (d, ρ', w')) :
    w' = w ∧ ∃ O' a C dx fs, SR c F O' ρ' w σ H ∧ Ex (vis O H) (vis O' H) ∧ Rep c F.dr.da (vis O' H) v d ∧ v = .ref a ∧ H a = some (.ins C dx fs) ∧ c.mg cn = some (.ref C) ∧ fs.lookup m = none := by
  obtain ⟨d1, ρ1, w1, e1, e2⟩ := bindM_some e
  obtain ⟨ew, O', S', k, r'⟩ := escR_ok S h e1
  cases id r' with
  | @ins a C dx fs c' gs ea mc rf =>
    unfold selfI at e2
    dsimp only at e2
    by_cases q : c' = cn ∧ gs.lookup m = none
    · rw [if_pos q] at e2
      cases e2
      obtain ⟨rfl, q2⟩ := q
      exact ⟨ew, O', _, _, _, _, S', k, r', rfl, vis_ex _ _ ea, mc, rf.none q2⟩
    · rw [if_neg q] at e2
      cases e2
  | _ => cases e2
theorem selfR_ok {c : Ct} {F : Fm} {O : List Addr} {ρ ρ' : Env} {w w' : W} {σ : L2.St} {H : Hp} {r : RV} {v : V} {d : D} (S : SR c F O ρ w σ H) (h : Hold c F O σ H r v) (e : selfR cn m r ρ w = some (d, ρ', w')) :
    w' = w ∧ ∃ O' a C dx fs, SR c F O' ρ' w σ H ∧ Ex (vis O H) (vis O' H) ∧ Rep c F.dr.da (vis O' H) v d ∧ v = .ref a ∧ H a = some (.ins C dx fs) ∧ c.mg cn = some (.ref C) ∧ fs.lookup m = none := by
  cases r with
  | ob k =>
    obtain ⟨a, rfl, ha⟩ := h
    have e : selfO cn m k ρ w = some (d, ρ', w') := e
    unfold selfO at e
    cases q : w.st[k]? with
    | none =>
      rw [q] at e
      cases e
    | some d1 =>
      rw [q] at e
      cases d1 with
      | ins c' gs =>
        dsimp only at e
        by_cases z : c' = cn ∧ gs.lookup m = none
        · rw [if_pos z] at e
          cases e
          obtain ⟨rfl, z2⟩ := z
          obtain ⟨o, h1, h2⟩ := S.draw.s.is k a _ ha q
          rcases h2 with ⟨_, _, _, y, _⟩ | ⟨_, _, _, y, _⟩ | ⟨_, _, _, y, _⟩ | ⟨C, dx, fs, cn', gs', y1, y2, y3, rf⟩
          · cases y
          · cases y
          · cases y
          · cases y2
            subst y1
            exact ⟨rfl, O, a, C, dx, fs, S, Ex.refl _, .obj ha, rfl, h1, y3, rf.none z2⟩
        · rw [if_neg z] at e
          cases e
      | _ => cases e
  | sh d0 => exact selfI_ok S h e
  | fr d0 => exact selfI_ok S h e
  | ow i0 => exact selfI_ok S h e
theorem fe_meth {pl : Sem Bool} (cl : MetD X.prog X.w X.K X.mg X.base k cn m n dd den) (hr : Room j X.A) (ho : FE X o fo) (ha : FA X (e :: es) fa) (hk : k ≤ j := by decide) (hn : 1 + ((e :: es).length + dd.length) = n := by rfl)
    (hst : Plain1 X e es := by rfl) (hpl : PlainR X es pos := by rfl) (ht : MethRun X o m (e :: es) apos pos pl := by rfl) :
    FE X (.Call (.Attribute o m apos) (e :: es) [] pos) (methM cn m den dd fo fa) := fun F => by
  obtain ⟨C, f, fd, ps, ds, dvs, mc, cls, me, FO, b, d, rd⟩ := cl.ex
  refine PE.wk (pe_meth (pl := pl) (ho F) cls me FO (hr.mono hk) b d pass0 (ha.run F) hst hpl ht) fun σ H Q q => ?_
  obtain ⟨O, ρ, w, r, ρ', w', S, e, k⟩ := q
  refine tE_then S e fun x O1 ρ1 w1 H1 r1 S1 e1 R1 h1 => ?_
  obtain ⟨d1, ρ2, w2, h2, h3⟩ := bindM_some h1
  obtain ⟨rfl, O2, a, C', dx, fs, S2, k2, r2, ex, ea, mc', fl⟩ := selfR_ok S1 R1.hold h2
  have eC : C' = C := by
    have z : X.mg cn = some (.ref C') := mc'
    rw [mc] at z
    cases z
    rfl
  subst eC
  refine ⟨a, dx, fs, ex, ea, fl, ?_⟩
  refine tA_then S2 h3 fun vs O3 ρ3 w3 H3 rs S3 e3 R3 f3 h4 => ?_
  obtain ⟨ds1, ρ4, w4, h5, h6⟩ := bindM_some h4
  obtain ⟨rfl, O4, S4, k4, r4⟩ := escAll_ok S3 R3 h5
  obtain ⟨r', w5, h7, ez⟩ := runD_some h6
  cases ez
  refine sp_of (E := E0) S4 (.cons (r2.mono (e3.trans k4)) (r4.append (rd _ _))) ?_ h7 fun v H' S5 e5 R5 => k v O4 H' S5 ((((e1.trans k2).trans e3).trans k4).trans e5) (R5.less (((e1.trans k2).trans e3).trans k4))
  rw [List.length_cons, List.length_append, r4.len2, ← R3.length, ha.len _ _ _ _ _ f3, Nat.add_comm]
  exact hn
theorem fe_meth0 {pl : Sem Bool} (cl : MetD X.prog X.w X.K X.mg X.base k cn m n dd den) (hr : Room j X.A) (ho : FE X o fo) (hk : k ≤ j := by decide) (hn : 1 + dd.length = n := by rfl)
    (ht : MethRun X o m [] apos pos pl := by rfl) :
    FE X (.Call (.Attribute o m apos) [] [] pos) (bindM fo fun r => bindM (selfR cn m r) fun d => runD den (d :: dd)) := fun F => by
  obtain ⟨C, f, fd, ps, ds, dvs, mc, cls, me, FO, b, d, rd⟩ := cl.ex
  refine PE.wk (pe_meth0 (pl := pl) (ho F) cls me FO (hr.mono hk) b d pass0 ht) fun σ H Q q => ?_
  obtain ⟨O, ρ, w, r, ρ', w', S, e, k⟩ := q
  refine tE_then S e fun x O1 ρ1 w1 H1 r1 S1 e1 R1 h1 => ?_
  obtain ⟨d1, ρ2, w2, h2, h3⟩ := bindM_some h1
  obtain ⟨rfl, O2, a, C', dx, fs, S2, k2, r2, ex, ea, mc', fl⟩ := selfR_ok S1 R1.hold h2
  have eC : C' = C := by
    have z : X.mg cn = some (.ref C') := mc'
    rw [mc] at z
    cases z
    rfl
  subst eC
  refine ⟨a, dx, fs, ex, ea, fl, ?_⟩
  obtain ⟨r', w5, h7, ez⟩ := runD_some h3
  cases ez
  refine sp_of (E := E0) (vs := x :: ([] ++ dvs)) S2 (.cons r2 (rd _ _)) ?_ h7 fun v H' S5 e5 R5 => k v O2 H' S5 ((e1.trans k2).trans e5) (R5.less (e1.trans k2))
  rw [List.length_cons, Nat.add_comm]
  exact hn
/-- o.m, a property -/
theorem fe_prop (cl : PrpD X.prog X.w X.K X.mg X.base k cn m den) (hr : Room j X.A) (ho : FE X o fo) (hk : k + 1 ≤ j := by decide) (hab : attributeBase o m X.env (eval o X.env) = eval o X.env := by rfl) :
    FE X (.Attribute o m pos) (bindM fo fun r => bindM (escR r) fun d => match d with
      | .ins c' gs => if c' = cn then runD den [d] else failM
      | _ => failM) := fun F => by
  obtain ⟨C, p, g, fd, ps, mc, cls, pr, FO, b⟩ := cl.ex
  refine PE.wk (pe_prop (ho F) cls pr FO (hr.mono hk) b .nil pass0 hab) fun σ H Q q => ?_
  obtain ⟨O, ρ, w, r, ρ', w', S, e, k⟩ := q
  refine tE_then S e fun x O1 ρ1 w1 H1 r1 S1 e1 R1 h1 => ?_
  obtain ⟨d1, ρ2, w2, h2, h3⟩ := bindM_some h1
  obtain ⟨rfl, O2, S2, k2, r2⟩ := escR_ok S1 R1.hold h2
  cases id r2 with
  | @ins a C' dx fs c' gs ea mc' rf =>
    dsimp only at h3
    by_cases z : c' = cn
    · subst z
      rw [if_pos rfl] at h3
      have eC : C' = C := by
        have z : X.mg c' = some (.ref C') := mc'
        rw [mc] at z
        cases z
        rfl
      subst eC
      refine ⟨a, dx, fs, rfl, vis_ex _ _ ea, ?_⟩
      obtain ⟨r', w5, h7, ez⟩ := runD_some h3
      cases ez
      exact sp_of (E := E0) (vs := [.ref a]) S2 (.cons r2 .nil) rfl h7 fun v H' S5 e5 R5 => k v O2 H' S5 ((e1.trans k2).trans e5) (R5.less (e1.trans k2))
    · rw [if_neg z] at h3
      cases h3
  | _ => cases h3
/-- o.f, an attribute -/
def fldD (cn f : Str) : D → Option RV
  | .ins c' gs => if c' = cn then (gs.lookup f).map .sh else none
  | _ => none
theorem fe_fld (cl : FldD X.K X.mg cn f) (ho : FE X o fo) (hb : attributeBase o f X.env (eval o X.env) = eval o X.env := by rfl) : FE X (.Attribute o f pos) (op1M (fldD cn f) fo) := fun F => by
  obtain ⟨C, mc, cls, na⟩ := cl.ex
  refine PE.wk (pe_fld (ho F) hb) fun σ H Q q => ?_
  obtain ⟨O, ρ, w, r, ρ', w', S, e, k⟩ := q
  refine tE_then S e fun x O1 ρ1 w1 H1 r1 S1 e1 R1 h1 => ?_
  obtain ⟨d1, r', p1, eg, ez⟩ := lift1_some h1
  cases ez
  have P := R1.hold.peek S1 p1
  cases d1 with
  | ins c' gs =>
    obtain ⟨a, C', dx, fs, rfl, ea, mc', rf⟩ := P.ins
    unfold fldD at eg
    dsimp only at eg
    by_cases z : c' = cn
    · subst z
      rw [if_pos rfl] at eg
      have eC : C' = C := by
        have z : X.mg c' = some (.ref C') := mc'
        rw [mc] at z
        cases z
        rfl
      subst eC
      cases q : gs.lookup f with
      | none =>
        rw [q] at eg
        cases eg
      | some d =>
        rw [q] at eg
        cases eg
        obtain ⟨v, h1, h2⟩ := rf.lookup q
        exact ⟨a, C', dx, fs, v, rfl, ea, cls, na, h1, k v O1 H1 S1 e1 h2⟩
    · rw [if_neg z] at eg
      cases eg
  | _ => cases eg
end
end FD

end sec_FD3
section sec_FD4
set_option maxRecDepth 100000
set_option maxHeartbeats 5000000
/-! FD4: statements. -/
namespace FD
open PySem L2
variable [Tabl]

section
variable {c : Ct} {F : Fm} {G : Hp} {O : List Addr} {ρ ρ' : Env} {w w' : W} {σ : L2.St} {H : Hp} {r : RV} {v : V} {d : D} {i : Nat}
theorem SR.setVal (S : SR c F O ρ w σ H) (i : Nat) (r : Rep c F.dr.da (vis O H) v d) : SR c F O (ρ.set i (some (.val d))) w (σ.set i (some v)) H where
  len := by rw [List.length_set, List.length_set]; exact S.len
  base := S.base
  new := S.new
  sub := S.sub
  drs := S.drs
  trk := S.trk
  draw := S.draw
  val := fun j e h => by
    rcases getElem?_set_some h with ⟨rfl, z⟩ | ⟨n, h⟩
    · cases z
      have hl : i < ρ.length := by
        have := (List.getElem?_eq_some_iff.mp h).1
        rw [List.length_set] at this
        exact this
      exact ⟨v, List.getElem?_set_self (by rw [← S.len]; exact hl), r⟩
    · obtain ⟨u, h1, h2⟩ := S.val j e h
      exact ⟨u, by rw [List.getElem?_set_ne n]; exact h1, h2⟩
  own := fun j e h => by
    rcases getElem?_set_some h with ⟨rfl, z⟩ | ⟨n, h⟩
    · cases z
    · obtain ⟨a, o, h1, h2⟩ := S.own j e h
      exact ⟨a, o, by rw [List.getElem?_set_ne n]; exact h1, h2⟩
  uni := fun j j' e e' a h h' q q' => by
    rcases getElem?_set_some h with ⟨rfl, z⟩ | ⟨n, h⟩
    · cases z
    · rcases getElem?_set_some h' with ⟨rfl, z⟩ | ⟨n', h'⟩
      · cases z
      · rw [List.getElem?_set_ne n] at q
        rw [List.getElem?_set_ne n'] at q'
        exact S.uni j j' e e' a h h' q q'
/-- a hidden thing that no slot owns gets its slot -/
theorem SR.setOwn {a : Addr} {o : HO} (S : SR c F O ρ w σ H) (i : Nat) (hO : a ∈ O) (h0 : a ∉ F.O0) (q : H a = some o) (ob : Obj c F.dr.da (vis O H) o d) (nu : ∀ (j : Nat) e, ρ[j]? = some (some (Slot.own e)) → σ[j]? ≠ some (some (V.ref a))) :
    SR c F O (ρ.set i (some (.own d))) w (σ.set i (some (.ref a))) H where
  len := by rw [List.length_set, List.length_set]; exact S.len
  base := S.base
  new := S.new
  sub := S.sub
  drs := S.drs
  trk := S.trk
  draw := S.draw
  val := fun j e h => by
    rcases getElem?_set_some h with ⟨rfl, z⟩ | ⟨n, h⟩
    · cases z
    · obtain ⟨u, h1, h2⟩ := S.val j e h
      exact ⟨u, by rw [List.getElem?_set_ne n]; exact h1, h2⟩
  own := fun j e h => by
    rcases getElem?_set_some h with ⟨rfl, z⟩ | ⟨n, h⟩
    · cases z
      have hl : i < ρ.length := by
        have := (List.getElem?_eq_some_iff.mp h).1
        rw [List.length_set] at this
        exact this
      exact ⟨a, o, List.getElem?_set_self (by rw [← S.len]; exact hl), hO, h0, q, ob⟩
    · obtain ⟨a, o, h1, h2⟩ := S.own j e h
      exact ⟨a, o, by rw [List.getElem?_set_ne n]; exact h1, h2⟩
  uni := fun j j' e e' b h h' q q' => by
    rcases getElem?_set_some h with ⟨rfl, z⟩ | ⟨n, h⟩
    · rcases getElem?_set_some h' with ⟨rfl, z'⟩ | ⟨n', h'⟩
      · rfl
      · rw [List.getElem?_set_ne n'] at q'
        rcases getElem?_set_some q with ⟨_, y⟩ | ⟨y, _⟩
        · cases y
          exact absurd q' (nu j' e' h')
        · exact absurd rfl y
    · rcases getElem?_set_some h' with ⟨rfl, z'⟩ | ⟨n', h'⟩
      · rw [List.getElem?_set_ne n] at q
        rcases getElem?_set_some q' with ⟨_, y⟩ | ⟨y, _⟩
        · cases y
          exact absurd q (nu j e h)
        · exact absurd rfl y
      · rw [List.getElem?_set_ne n] at q
        rw [List.getElem?_set_ne n'] at q'
        exact S.uni j j' e e' b h h' q q'
def setM (i : Nat) (s : Slot) : M Unit := fun ρ w => some ((), ρ.set i (some s), w)
def asgM (i : Nat) : RV → M Unit
  | .fr d => setM i (.own d)
  | r => bindM (escR r) fun d => setM i (.val d)
theorem asg_ok (S : SR c F O ρ w σ H) (x : Ex G (vis O H)) (R : RepR c F G O ρ w σ H r v) (e : asgM i r ρ w = some ((), ρ', w')) : w' = w ∧ ∃ O', SR c F O' ρ' w (σ.set i (some v)) H ∧ Ex G (vis O' H) := by
  cases r with
  | fr d =>
    cases e
    obtain ⟨a, o, rfl, n, S1, q, ob, x1⟩ := R
    refine ⟨rfl, a :: O, S1.setOwn i List.mem_cons_self (fun z => n (S.sub a z)) q ob (fun j e h z => ?_), x1⟩
    obtain ⟨b, u, h1, h2, _⟩ := S.own j e h
    rw [h1] at z
    cases z
    exact n h2
  | sh d =>
    cases e
    exact ⟨rfl, O, S.setVal i R, x⟩
  | ob k =>
    cases e
    obtain ⟨a, rfl, ha⟩ := R
    exact ⟨rfl, O, S.setVal i (.obj ha), x⟩
  | ow j =>
    obtain ⟨d, ρ1, w1, e1, e2⟩ := bindM_some e
    obtain ⟨rfl, O1, S1, k1, r1⟩ := escR_ok S R.hold e1
    cases e2
    exact ⟨rfl, O1, S1.setVal i r1, x.trans k1⟩
end

section
variable {X : Cx} {e : Expr} {pos pos' : Pos} {fe : M RV} {st : Stmt} {rest : List Stmt} {f g : M Fl} {x : Str} {i : Nat}
def nxM : M Unit → M Fl := fun m => bindM m fun _ => pureM .nx
theorem fs_set (hN : X.N.Nodup) (hi : X.N[i]? = some x) (hx : Loc X.env.scope x) (he : FE X e fe) (hs : swapsWith e (some (.Name x pos')) pos.line X.env = pure false := by rfl) (hf : X.fn x = true ∨ X.env.scope.names.lookup x = some .local := by first | exact .inl rfl | exact .inr rfl | assumption) :
    FS X (.Assign [.Name x pos'] e pos) (bindM fe fun r => nxM (asgM i r)) := fun F => PS.wk (ps_set hN hi hx (he F) hs hf) fun E σ H q => by
  obtain ⟨O, ρ, w, fl, ρ', w', S, e, k⟩ := q
  refine tE_then S e fun v O1 ρ1 w1 H1 r1 S1 e1 R1 h1 => ?_
  obtain ⟨_, ρ2, w2, h2, h3⟩ := bindM_some h1
  obtain ⟨rfl, O2, S2, x2⟩ := asg_ok S1 e1 R1 h2
  cases h3
  exact k _ O2 H1 S2 x2
theorem fs_ret (he : FE X e fe) : FS X (.Return (some e) pos) (bindM fe fun r => pureM (.ret r)) := fun F => PS.wk (ps_ret (he F)) fun E σ H q => by
  obtain ⟨O, ρ, w, fl, ρ', w', S, e, k⟩ := q
  refine tE_then S e fun v O1 ρ1 w1 H1 r1 S1 e1 R1 h1 => ?_
  cases h1
  exact k v σ O1 H1 S1 R1
theorem fs_expr (he : FE X e fe) (hs : swapsWith e none pos.line X.env = pure false := by rfl) : FS X (.Expr e pos) (bindM fe fun _ => pureM .nx) := fun F => PS.wk (ps_expr (he F) hs) fun E σ H q => by
  obtain ⟨O, ρ, w, fl, ρ', w', S, e, k⟩ := q
  refine tE_then S e fun v O1 ρ1 w1 H1 r1 S1 e1 R1 h1 => ?_
  cases h1
  exact k σ O1 H1 S1 e1
theorem fs_cont : FS X (.Continue pos) (pureM .ct) := fun F => PS.wk ps_continue fun E σ H q => by
  obtain ⟨O, ρ, w, fl, ρ', w', S, e, k⟩ := q
  cases e
  exact k σ O H S (Ex.refl _)
/-- what never runs -/
theorem fs_never : FS X st failM := fun F => PS.wk ps_never fun E σ H q => by
  obtain ⟨O, ρ, w, fl, ρ', w', S, e, k⟩ := q
  cases e
def seqM (f g : M Fl) : M Fl := bindM f fun fl => match fl with
  | .nx => g
  | fl => pureM fl
theorem fss_nil : FSs X [] (pureM .nx) := fun F => PSs.wk pss_nil fun E σ H q => by
  obtain ⟨O, ρ, w, fl, ρ', w', S, e, k⟩ := q
  cases e
  exact k σ O H S (Ex.refl _)
theorem fss_one (h : FS X st f) : FSs X [st] f := fun F => pss_one (h F)
theorem fss_cons (h : FS X st f) (h2 : FSs X rest g) : FSs X (st :: rest) (seqM f g) := fun F => PSs.wk (pss_cons (h F) (h2 F)) fun E σ H q => by
  obtain ⟨O, ρ, w, fl, ρ', w', S, e, k⟩ := q
  obtain ⟨f1, ρ1, w1, e1, e2⟩ := bindM_some e
  refine ⟨O, ρ, w, f1, ρ1, w1, S, e1, ?_⟩
  cases f1 with
  | nx => exact fun σ1 O1 H1 S1 x1 => ⟨O1, ρ1, w1, fl, ρ', w', S1, e2, k.more x1⟩
  | ret r =>
    cases e2
    exact k
  | bk =>
    cases e2
    exact k
  | ct =>
    cases e2
    exact k
theorem fs_if {t : Expr} {a b : List Stmt} {ft : M Bool} (ht : FT X t ft) (ha : FSs X a f) (hb : FSs X b g) : FS X (.If t a b pos) (ifM ft f g) := fun F => PS.wk (ps_if (ht F) (ha F) (hb F)) fun E σ H q => by
  obtain ⟨O, ρ, w, fl, ρ', w', S, e, k⟩ := q
  refine tT_then S e fun b O1 ρ1 w1 H1 S1 e1 h1 => ?_
  cases b with
  | true => exact ⟨O1, ρ1, w1, fl, ρ', w', S1, h1, k.more e1⟩
  | false => exact ⟨O1, ρ1, w1, fl, ρ', w', S1, h1, k.more e1⟩
end

/-! ### targets -/
/-- a target: the slots js may change -/
def tG (c : Ct) (F : Fm) (js : List Nat) (g : D → M Unit) : TG := fun v σ H Q => ∃ O ρ w d ρ' w', SR c F O ρ w σ H ∧ Rep c F.dr.da (vis O H) v d ∧ g d ρ w = some ((), ρ', w') ∧
  ∀ σ' O', SR c F O' ρ' w' σ' H → Ex (vis O H) (vis O' H) → σ'.length = σ.length → (∀ j, j ∉ js → σ'[j]? = σ[j]?) → Q σ' H
def tGs (c : Ct) (F : Fm) (js : List Nat) (g : List D → M Unit) : TGs := fun vs σ H Q => ∃ O ρ w ds ρ' w', SR c F O ρ w σ H ∧ RepAll c F.dr.da (vis O H) vs ds ∧ g ds ρ w = some ((), ρ', w') ∧
  ∀ σ' O', SR c F O' ρ' w' σ' H → Ex (vis O H) (vis O' H) → σ'.length = σ.length → (∀ j, j ∉ js → σ'[j]? = σ[j]?) → Q σ' H
def FG (X : Cx) (tg : Expr) (js : List Nat) (g : D → M Unit) : Prop := ∀ F, PG X tg (tG (ct X) F js g)
def FGs (X : Cx) (ts : List Expr) (js : List Nat) (g : List D → M Unit) : Prop := ∀ F, PGs X ts (tGs (ct X) F js g)
theorem PG.wk {X : Cx} {e : Expr} {t t' : TG} (h : PG X e t) (k : ∀ v σ H Q, t' v σ H Q → t v σ H Q) : PG X e t' := ⟨fun pins s σ H v u Q I r q => h.run pins s σ H v u Q I r (k v σ H Q q)⟩
theorem PGs.wk {X : Cx} {e : List Expr} {t t' : TGs} (h : PGs X e t) (k : ∀ v σ H Q, t' v σ H Q → t v σ H Q) : PGs X e t' := ⟨fun pins s σ H v u Q I r q => h.run pins s σ H v u Q I r (k v σ H Q q)⟩
def gNameM (i : Nat) : D → M Unit := fun d => setM i (.val d)
def gNilM : List D → M Unit
  | [] => pureM ()
  | _ => failM
def gConsM (g : D → M Unit) (h : List D → M Unit) : List D → M Unit
  | d :: ds => bindM (g d) fun _ => h ds
  | _ => failM
def gTupM (g : List D → M Unit) : D → M Unit
  | .tup ds => g ds
  | _ => failM
section
variable {X : Cx} {e : Expr} {es : List Expr} {pos : Pos} {fe : M RV} {x : Str} {i : Nat} {js js' : List Nat}
theorem fg_name (hN : X.N.Nodup) (hi : X.N[i]? = some x) (hx : Loc X.env.scope x) (hf : X.fn x = true ∨ X.env.scope.names.lookup x = some .local := by first | exact .inl rfl | exact .inr rfl | assumption) : FG X (.Name x pos) [i] (gNameM i) := fun F => PG.wk (pg_name hN hi hx hf) fun v σ H Q q => by
  obtain ⟨O, ρ, w, d, ρ', w', S, r, e, k⟩ := q
  cases e
  exact k _ O (S.setVal i r) (Ex.refl _) (by rw [List.length_set]) fun j hj => List.getElem?_set_ne fun z => hj (by rw [z]; exact List.mem_singleton.mpr rfl)
theorem fgs_nil : FGs X [] [] gNilM := fun F => PGs.wk pgs_nil fun vs σ H Q q => by
  obtain ⟨O, ρ, w, ds, ρ', w', S, r, e, k⟩ := q
  cases r with
  | nil =>
    cases e
    exact ⟨rfl, k σ O S (Ex.refl _) rfl fun _ _ => rfl⟩
  | cons _ _ => cases e
theorem fgs_cons {g : D → M Unit} {h : List D → M Unit} (h1 : FG X e js g) (h2 : FGs X es js' h) (hs : (assignEach (e :: es) X.env).map (·.2) = assign e X.env :: (assignEach es X.env).map (·.2) := by rfl) : FGs X (e :: es) (js ++ js') (gConsM g h) := fun F => PGs.wk (pgs_cons (h1 F) (h2 F) hs) fun vs σ H Q q => by
  obtain ⟨O, ρ, w, ds, ρ', w', S, r, e, k⟩ := q
  cases r with
  | nil => cases e
  | cons r rr =>
    obtain ⟨_, ρ1, w1, e1, e2⟩ := bindM_some e
    refine ⟨_, _, rfl, O, ρ, w, _, ρ1, w1, S, r, e1, fun σ1 O1 S1 x1 l1 k1 => ?_⟩
    refine ⟨O1, ρ1, w1, _, ρ', w', S1, rr.mono x1, e2, fun σ2 O2 S2 x2 l2 k2 => k σ2 O2 S2 (x1.trans x2) (l2.trans l1) fun j hj => ?_⟩
    rw [k2 j fun z => hj (List.mem_append_right _ z), k1 j fun z => hj (List.mem_append_left _ z)]
theorem fg_tup {k : Nat} {g : List D → M Unit} (hc : X.calm = true) (h : FGs X es js g) (hst : (assignEach es X.env).findIdx? (·.1) = none := by rfl) (n : Nat) (hn : (assignEach es X.env).length = n := by rfl) (hg : ∀ ds ρ w z, g ds ρ w = some z → ds.length = n) : FG X (.Tuple es k pos) js (gTupM g) := fun F => PG.wk (pg_tup hc (h F) hn hst) fun v σ H Q q => by
  obtain ⟨O, ρ, w, d, ρ', w', S, r, e, k⟩ := q
  cases r with
  | @tup a xs ds s r => exact ⟨a, xs, rfl, .inl (.inl (vis_ex _ _ s)), by rw [r.length]; exact hg _ _ _ _ e, O, ρ, w, ds, ρ', w', S, r, e, k⟩
  | _ => cases e
theorem gNil_len : ∀ ds ρ w z, gNilM ds ρ w = some z → ds.length = 0
  | [], _, _, _, _ => rfl
  | _ :: _, _, _, _, h => by cases h
theorem gCons_len {g : D → M Unit} {h : List D → M Unit} {n : Nat} (k : ∀ ds ρ w z, h ds ρ w = some z → ds.length = n) : ∀ ds ρ w z, gConsM g h ds ρ w = some z → ds.length = n + 1
  | [], _, _, _, q => by cases q
  | _ :: ds, _, _, _, q => by
    obtain ⟨_, ρ1, w1, e1, e2⟩ := bindM_some q
    rw [List.length_cons, k ds _ _ _ e2]
/-- target = e -/
theorem fs_asg {tg : Expr} {g : D → M Unit} (he : FE X e fe) (hg : FG X tg js g) (hs : swapsWithSole [tg] e pos.line X.env = pure false := by rfl) (hw : swappedStores [tg] e X.env = pure none := by rfl) (h1 : (assignEach [tg] X.env).map (·.2) = [assign tg X.env] := by rfl) :
    FS X (.Assign [tg] e pos) (bindM fe fun r => bindM (escR r) fun d => nxM (g d)) := fun F => PS.wk (ps_asg (he F) (hg F) hs hw h1) fun E σ H q => by
  obtain ⟨O, ρ, w, fl, ρ', w', S, e, k⟩ := q
  refine tE_then S e fun v O1 ρ1 w1 H1 r1 S1 e1 R1 h1 => ?_
  obtain ⟨d, ρ2, w2, h2, h3⟩ := bindM_some h1
  obtain ⟨rfl, O2, S2, k2, r2⟩ := escR_ok S1 R1.hold h2
  obtain ⟨_, ρ3, w3, h4, h5⟩ := bindM_some h3
  cases h5
  exact ⟨O2, _, _, d, ρ', w', S2, r2, h4, fun σ' O' S' x' _ _ => k σ' O' H1 S' ((e1.trans k2).trans x')⟩
end

/-! ### a, b = x, y: what is new stays new -/
/-- values that are pending: the new ones (at P) hidden, of no slot -/
inductive Got (c : Ct) (da : DA) (O : List Addr) (H : Hp) : List Addr → List RV → List V → Prop
  | nil : Got c da O H [] [] []
  | sh {P : List Addr} {rs : List RV} {vs : List V} {v : V} {d : D} : Rep c da (vis O H) v d → Got c da O H P rs vs → Got c da O H P (.sh d :: rs) (v :: vs)
  | fr {P : List Addr} {rs : List RV} {vs : List V} {a : Addr} {o : HO} {d : D} : a ∈ O → a ∉ P → H a = some o → Obj c da (vis O H) o d → Got c da O H P rs vs → Got c da O H (a :: P) (.fr d :: rs) (.ref a :: vs)
theorem Got.mono {c : Ct} {da : DA} {O O' : List Addr} {H : Hp} (s : ∀ a ∈ O, a ∈ O') (e : Ex (vis O H) (vis O' H)) : ∀ {P : List Addr} {rs : List RV} {vs : List V}, Got c da O H P rs vs → Got c da O' H P rs vs
  | _, _, _, .nil => .nil
  | _, _, _, .sh h r => .sh (h.mono e) (Got.mono s e r)
  | _, _, _, .fr h1 h2 h3 h4 r => .fr (s _ h1) h2 h3 (h4.mono e) (Got.mono s e r)
/-- pending values of the frame F -/
def Pend (c : Ct) (F : Fm) (O : List Addr) (ρ : Env) (σ : L2.St) (H : Hp) (rs : List RV) (vs : List V) : Prop := ∃ P, Got c F.dr.da O H P rs vs ∧ ∀ a ∈ P, a ∉ F.O0 ∧ ∀ (j : Nat) e, ρ[j]? = some (some (Slot.own e)) → σ[j]? ≠ some (some (V.ref a))
/-- the frame with one more thing that must stand -/
def Fm.and (F : Fm) (a : Addr) (o : HO) : Fm := ⟨F.dr, a :: F.O0, fun b => if b = a then some o else F.H0 b⟩
section
variable {c : Ct} {F : Fm} {O : List Addr} {ρ : Env} {w : W} {σ : L2.St} {H : Hp} {a : Addr} {o : HO}
theorem SR.in (S : SR c F (a :: O) ρ w σ H) (h0 : a ∉ F.O0) (nu : ∀ (j : Nat) e, ρ[j]? = some (some (Slot.own e)) → σ[j]? ≠ some (some (V.ref a))) (q : H a = some o) : SR c (F.and a o) (a :: O) ρ w σ H where
  len := S.len
  base := fun b u h n => by
    by_cases z : b = a
    · subst z
      have h : (if b = b then some o else F.H0 b) = some u := h
      rw [if_pos rfl] at h
      cases h
      exact q
    · have h : (if b = a then some o else F.H0 b) = some u := h
      rw [if_neg z] at h
      exact S.base b u h n
  new := fun b h n => by
    have z : b ≠ a := fun z => n (by rw [z]; exact List.mem_cons_self)
    show (if b = a then some o else F.H0 b) = none
    rw [if_neg z]
    exact S.new b h fun y => n (List.mem_cons_of_mem _ y)
  sub := fun b h => by
    rcases List.mem_cons.mp h with z | z
    · rw [z]
      exact List.mem_cons_self
    · exact S.sub b z
  drs := fun b h => List.mem_cons_of_mem _ (S.drs b h)
  trk := S.trk
  draw := S.draw
  val := S.val
  own := fun i d h => by
    obtain ⟨b, u, h1, h2, h3, h4, h5⟩ := S.own i d h
    refine ⟨b, u, h1, h2, fun z => ?_, h4, h5⟩
    rcases List.mem_cons.mp z with z | z
    · rw [z] at h1
      exact nu i d h h1
    · exact h3 z
  uni := S.uni
theorem SR.out (S : SR c (F.and a o) O ρ w σ H) (h0 : a ∉ F.O0) (hn : F.H0 a = none) (hd : ∀ b ∈ F.dr.as, b ∈ F.O0) : SR c F O ρ w σ H ∧ H a = some o ∧ a ∈ O ∧ ∀ (j : Nat) e, ρ[j]? = some (some (Slot.own e)) → σ[j]? ≠ some (some (V.ref a)) := by
  have ha : a ∉ F.dr.as := fun z => h0 (hd a z)
  refine ⟨⟨S.len, fun b u h n => S.base b u ?_ n, fun b h n => ?_, fun b h => S.sub b (List.mem_cons_of_mem _ h), hd, S.trk, S.draw, S.val, fun i d h => ?_, S.uni⟩, S.base a o (show (if a = a then some o else F.H0 a) = some o from if_pos rfl) ha, S.sub a List.mem_cons_self, fun j e h z => ?_⟩
  · show (if b = a then some o else F.H0 b) = some u
    rw [if_neg fun z => by rw [z, hn] at h; cases h]
    exact h
  · by_cases z : b = a
    · rw [z]
      exact hn
    · have q : (if b = a then some o else F.H0 b) = none := S.new b h fun y => by
        rcases List.mem_cons.mp y with y | y
        · exact z y
        · exact n y
      rw [if_neg z] at q
      exact q
  · obtain ⟨b, u, h1, h2, h3, h4, h5⟩ := S.own i d h
    exact ⟨b, u, h1, h2, fun z => h3 (List.mem_cons_of_mem _ z), h4, h5⟩
  · obtain ⟨b, u, h1, h2, h3, _⟩ := S.own j e h
    rw [h1] at z
    cases z
    exact h3 List.mem_cons_self
end
/-- what came out, no slot's own -/
def offR : RV → M RV
  | .ow i => bindM (escR (.ow i)) fun d => pureM (.sh d)
  | .ob k => pureM (.sh (.obj k))
  | r => pureM r
def pend1 (f : M RV) (g : M (List RV)) : M (List RV) := bindM f fun r => bindM (offR r) fun r' => bindM g fun rs => pureM (r' :: rs)
def tP (c : Ct) (F : Fm) (f : M (List RV)) : TA := fun σ H Q => ∃ O ρ w rs ρ' w', SR c F O ρ w σ H ∧ f ρ w = some (rs, ρ', w') ∧
  ∀ vs O' H', SR c F O' ρ' w' σ H' → Ex (vis O H) (vis O' H') → Pend c F O' ρ' σ H' rs vs → Q vs H'
def FP (X : Cx) (es : List Expr) (f : M (List RV)) : Prop := ∀ F, PA X es (tP (ct X) F f)
section
variable {X : Cx} {e : Expr} {es : List Expr} {pos : Pos} {fe : M RV} {g : M (List RV)}
theorem fp_nil : FP X [] (pureM []) := fun F => PA.wk pa_nil fun σ H Q q => by
  obtain ⟨O, ρ, w, r, ρ', w', S, e, k⟩ := q
  cases e
  exact k [] O H S (Ex.refl _) ⟨[], .nil, fun _ z => nomatch z⟩
theorem fp_cons (ha : FE X e fe) (hr : FP X es g) (hs : starEach (e :: es) X.env = (false, eval e X.env) :: starEach es X.env := by rfl) : FP X (e :: es) (pend1 fe g) := fun F => ⟨fun p pins s σ H Q I q => by
  obtain ⟨O, ρ, w, rs, ρ', w', S, e, k⟩ := q
  rw [hs]
  show wpAny _ _ (spliced ((false, eval _ X.env) :: backTo p (starEach es X.env))) _ _ s
  refine Calls.spliced_cons (thn ((ha F).run pins s σ H _ I (tE_then (Q := fun v H1 => ∃ O1 ρ1 w1 r1, SR (ct X) F O1 ρ1 w1 σ H1 ∧ Ex (vis O H) (vis O1 H1) ∧ RepR (ct X) F (vis O H) O1 ρ1 w1 σ H1 r1 v ∧ (bindM (offR r1) fun r' => bindM g fun rs => pureM (r' :: rs)) ρ1 w1 = some (rs, ρ', w')) S e fun v O1 ρ1 w1 H1 r1 S1 e1 R1 h1 => ⟨O1, ρ1, w1, r1, S1, e1, R1, h1⟩)) fun u s1 ⟨x, H1, I1, rx, O1, ρ1, w1, r1, S1, e1, R1, h1⟩ => ?_)
  obtain ⟨r2, ρ2, w2, h2, h3⟩ := bindM_some h1
  obtain ⟨rs3, ρ3, w3, h4, h5⟩ := bindM_some h3
  cases h5
  have old : ∀ {d : D} {O2 : List Addr}, SR (ct X) F O2 ρ2 w2 σ H1 → Ex (vis O H) (vis O2 H1) → Rep (ct X) F.dr.da (vis O2 H1) x d → r2 = .sh d → wpAny (model X.prog X.w) X.A (spliced (backTo p (starEach es X.env))) (fun us s2 => AP X pins σ Q (u :: us) s2) X.xe s1 := fun {d O2} S2 x2 rp er => by
    subst er
    refine thn ((hr F).run p pins s1 σ H1 _ I1 ⟨O2, ρ2, w2, rs3, ρ', w', S2, h4, fun vs O3 H3 S3 x3 P3 => ?_⟩) fun us s2 ⟨vs, H3, I3, r3, q3⟩ => ⟨x :: vs, H3, I3, .cons rx r3, q3⟩
    obtain ⟨P, gt, pp⟩ := P3
    exact k (x :: vs) O3 H3 S3 (x2.trans x3) ⟨P, .sh (rp.mono x3) gt, pp⟩
  cases r1 with
  | sh d =>
    cases h2
    exact old S1 e1 R1 rfl
  | ob k =>
    cases h2
    obtain ⟨a, rfl, ha⟩ := R1
    exact old S1 e1 (.obj ha) rfl
  | ow i =>
    obtain ⟨d, ρ4, w4, h6, h7⟩ := bindM_some h2
    obtain ⟨rfl, O2, S2, k2, r2'⟩ := escR_ok S1 R1.hold h6
    cases h7
    exact old S2 (e1.trans k2) r2' rfl
  | fr d =>
    cases h2
    obtain ⟨a, o, rfl, n, S2, q, ob, x2⟩ := R1
    have nF : a ∉ F.O0 := fun z => n (S1.sub a z)
    have nu : ∀ (j : Nat) e, ρ1[j]? = some (some (Slot.own e)) → σ[j]? ≠ some (some (V.ref a)) := fun j e h z => by
      obtain ⟨b, u, h1, h2, _⟩ := S1.own j e h
      rw [h1] at z
      cases z
      exact n h2
    have S3 := S2.in nF nu q
    refine thn ((hr (F.and a o)).run p pins s1 σ H1 _ I1 ⟨a :: O1, _, _, rs3, ρ', w', S3, h4, fun vs O3 H3 S4 x3 P3 => ?_⟩) fun us s2 ⟨vs, H3, I3, r3, q3⟩ => ⟨_ :: vs, H3, I3, .cons rx r3, q3⟩
    obtain ⟨S5, q5, m5, u5⟩ := S4.out nF (S2.new a List.mem_cons_self nF) S1.drs
    obtain ⟨P, gt, pp⟩ := P3
    refine k (.ref a :: vs) O3 H3 S5 (x2.trans x3) ⟨a :: P, .fr m5 (fun z => (pp a z).1 List.mem_cons_self) q5 (ob.mono x3) gt, fun b hb => ?_⟩
    rcases List.mem_cons.mp hb with z | z
    · rw [z]
      exact ⟨nF, u5⟩
    · exact ⟨fun y => (pp b z).1 (List.mem_cons_of_mem _ y), (pp b z).2⟩⟩
def parM : List Nat → List RV → M Unit
  | [], [] => pureM ()
  | i :: is, .sh d :: rs => bindM (setM i (.val d)) fun _ => parM is rs
  | i :: is, .fr d :: rs => bindM (setM i (.own d)) fun _ => parM is rs
  | _, _ => failM
def setAll (σ : L2.St) : List Nat → List V → L2.St
  | i :: is, v :: vs => setAll (σ.set i (some v)) is vs
  | _, _ => σ
theorem par_ok {c : Ct} {F : Fm} : ∀ {is : List Nat} {rs : List RV} {vs : List V} {O : List Addr} {ρ ρ' : Env} {w w' : W} {σ : L2.St} {H : Hp}, SR c F O ρ w σ H → Pend c F O ρ σ H rs vs → parM is rs ρ w = some ((), ρ', w') → SR c F O ρ' w' (setAll σ is vs) H
  | [], _, _, O, ρ, ρ', w, w', σ, H, S, ⟨P, gt, pp⟩, e => by
    cases gt with
    | nil =>
      cases e
      exact S
    | _ => cases e
  | i :: is, _, _, O, ρ, ρ', w, w', σ, H, S, ⟨P, gt, pp⟩, e => by
    cases gt with
    | nil => cases e
    | @sh P rs vs v d r gt =>
      obtain ⟨_, ρ1, w1, e1, e2⟩ := bindM_some e
      cases e1
      show SR c F O ρ' w' (setAll (σ.set i (some v)) is vs) H
      refine par_ok (S.setVal i r) ⟨P, gt, fun a h => ⟨(pp a h).1, fun j e q z => ?_⟩⟩ e2
      rcases getElem?_set_some q with ⟨rfl, y⟩ | ⟨n, q⟩
      · cases y
      · rw [List.getElem?_set_ne n] at z
        exact (pp a h).2 j e q z
    | @fr P rs vs a o d m n q ob gt =>
      obtain ⟨_, ρ1, w1, e1, e2⟩ := bindM_some e
      cases e1
      obtain ⟨p1, p2⟩ := pp a List.mem_cons_self
      show SR c F O ρ' w' (setAll (σ.set i (some (.ref a))) is vs) H
      refine par_ok (S.setOwn i m p1 q ob p2) ⟨P, gt, fun b h => ⟨(pp b (List.mem_cons_of_mem _ h)).1, fun j e q z => ?_⟩⟩ e2
      rcases getElem?_set_some q with ⟨rfl, y⟩ | ⟨n', q⟩
      · rcases getElem?_set_some z with ⟨_, y⟩ | ⟨y, _⟩
        · cases y
          exact n h
        · exact y rfl
      · rw [List.getElem?_set_ne n'] at z
        exact (pp b (List.mem_cons_of_mem _ h)).2 j e q z
theorem Got.len2 {c : Ct} {da : DA} {O : List Addr} {H : Hp} {P : List Addr} {rs : List RV} {vs : List V} (g : Got c da O H P rs vs) : rs.length = vs.length := by
  induction g with
  | nil => rfl
  | sh _ _ ih => simp [ih]
  | fr _ _ _ _ _ ih => simp [ih]
theorem parM_len : ∀ {is : List Nat} {rs : List RV} {ρ : Env} {w : W} {z : Unit × Env × W}, parM is rs ρ w = some z → rs.length = is.length
  | [], [], _, _, _, _ => rfl
  | [], _ :: _, _, _, _, h => by cases h
  | _ :: _, [], _, _, _, h => by cases h
  | _ :: is, .sh _ :: rs, _, _, _, h => by
    obtain ⟨_, ρ1, w1, _, e2⟩ := bindM_some h
    rw [List.length_cons, parM_len e2, List.length_cons]
  | _ :: is, .fr _ :: rs, _, _, _, h => by
    obtain ⟨_, ρ1, w1, _, e2⟩ := bindM_some h
    rw [List.length_cons, parM_len e2, List.length_cons]
  | _ :: is, .ow _ :: rs, _, _, _, h => by cases h
  | _ :: is, .ob _ :: rs, _, _, _, h => by cases h
variable {i j l : Nat} {x y z : Str} {a b c' : Expr} {px py pz pt pt2 : Pos} {kt k2 : Nat} {fp : M (List RV)}
/-- names are set together; the display is not made -/
abbrev Swaps (X : Cx) (tg e : Expr) (ns : List Str) : Prop := swappedStores [tg] e X.env = pure (some ns)
abbrev NoSole (X : Cx) (tg e : Expr) (pos : Pos) : Prop := swapsWithSole [tg] e pos.line X.env = pure false
theorem fs_par2 (hc : X.calm = true) (hN : X.N.Nodup) (hi : X.N[i]? = some x) (hj : X.N[j]? = some y) (hij : i ≠ j)
    (hx : X.env.scope.names.lookup x = some .local) (hy : X.env.scope.names.lookup y = some .local) (ha : FP X [a, b] fp)
    (hw : Swaps X (.Tuple [.Name x px, .Name y py] kt pt) (.Tuple [a, b] k2 pt2) [x, y])
    (hs : NoSole X (.Tuple [.Name x px, .Name y py] kt pt) (.Tuple [a, b] k2 pt2) pos := by rfl) :
    FS X (.Assign [.Tuple [.Name x px, .Name y py] kt pt] (.Tuple [a, b] k2 pt2) pos) (bindM fp fun rs => nxM (parM [i, j] rs)) := fun F => PS.wk (ps_par hc hN hi hj hij hx hy (ha F) hw hs) fun E σ H q => by
  obtain ⟨O, ρ, w, fl, ρ', w', S, e, k⟩ := q
  obtain ⟨rs, ρ1, w1, e1, e2⟩ := bindM_some e
  obtain ⟨_, ρ2, w2, e3, e4⟩ := bindM_some e2
  cases e4
  refine ⟨O, ρ, w, rs, ρ1, w1, S, e1, fun vs O1 H1 S1 x1 P1 => ?_⟩
  have S2 := par_ok S1 P1 e3
  obtain ⟨P, gt, _⟩ := P1
  have lv : vs.length = 2 := by rw [← gt.len2, parM_len e3] <;> rfl
  match vs, lv, S2 with
  | [v1, v2], _, S2 => exact ⟨v1, v2, rfl, k _ O1 H1 S2 x1⟩
end
end FD

end sec_FD4
section sec_FD5
set_option maxRecDepth 100000
set_option maxHeartbeats 5000000
/-! FD5: what is walked; for, while, list comprehensions. -/
namespace FD
open PySem L2
variable [Tabl]

/-- J goes through ds, while what was to be seen (G) is to be seen -/
def Wk (c : Ct) (dr : Dr) (J : It) (G : Hp) (ds : List D) : Prop := ∀ (i : Nat) O H, Ex G (vis O H) → (∀ a ∈ O, ∃ o, H a = some o ∧ NT o) → (∀ t, dr.at_ = some t → H t.2.2 = some (.lst (dr.cl.map V.int))) → (∀ d, ds[i]? = some d → J.go i H ∧ ∀ x H', J.yld i H x H' → Ex H H' ∧ Rep c dr.da (vis O H') x d) ∧ (ds.length = i → J.stop i H)
theorem SR.cel {c : Ct} {F : Fm} {O : List Addr} {ρ : Env} {w : W} {σ : L2.St} {H : Hp} (S : SR c F O ρ w σ H) : ∀ t, F.dr.at_ = some t → H t.2.2 = some (.lst (F.dr.cl.map V.int)) := fun t e => by
  obtain ⟨_, _, h, _, q⟩ := S.draw.d.1 t e
  rw [← q]
  exact h
def tI (c : Ct) (F : Fm) (f : M (List D)) : TI := fun σ H R => ∃ O ρ w ds ρ' w', SR c F O ρ w σ H ∧ f ρ w = some (ds, ρ', w') ∧
  ∀ J O' H', SR c F O' ρ' w' σ H' → Ex (vis O H) (vis O' H') → Wk c F.dr J (vis O' H') ds → R J H'
def FI (X : Cx) (tg iter : Expr) (f : M (List D)) : Prop := ∀ F, PI X tg iter (tI (ct X) F f)
def iterD : D → Option (List D)
  | .lst ds => some ds
  | .tup ds => some ds
  | .ktup ds => some ds
  | .str x => some (x.cps.toList.map fun c => .str ⟨#[c]⟩)
  | .scr ns => some (ns.map D.int)
  | _ => none
def iterM (r : RV) : M (List D) := bindM (escR r) fun d => fun ρ w => match iterD d with
  | some ds => some (ds, ρ, w)
  | none => none
section
variable {c : Ct} {dr : Dr} {G : Hp}
theorem wk_list {a : Addr} {xs : List V} {ds : List D} (s0 : G a = some (.lst xs)) (r : RepAll c dr.da G xs ds) : Wk c dr (Itl c.K a) G ds := fun i O H e _ _ => by
  have s' : SqL c.K H a xs := (e.trans vis_ex).sl (SqL.of s0)
  refine ⟨fun d h => ?_, fun h => ⟨xs, s', by rw [r.length]; exact Nat.le_of_eq h⟩⟩
  obtain ⟨v, h1, h2⟩ := r.get h
  refine ⟨⟨xs, v, s', h1⟩, fun x H' y => ?_⟩
  obtain ⟨rfl, y⟩ := y
  have z := y xs s'
  rw [h1] at z
  cases z
  exact ⟨Ex.refl _, h2.mono e⟩
theorem wk_scr {a : Addr} {ns : List Int} (s : SqL c.K G a (ns.map V.int)) : Wk c dr (Itl c.K a) G (ns.map D.int) := fun i O H e _ _ => by
  have s' : SqL c.K H a (ns.map V.int) := (e.trans vis_ex).sl s
  refine ⟨fun d h => ?_, fun h => ⟨_, s', by simpa using Nat.le_of_eq h⟩⟩
  obtain ⟨v, h1, h2⟩ := (RepAll.ints (c := c) (da := dr.da) (G := G) ns).get h
  refine ⟨⟨_, v, s', h1⟩, fun x H' y => ?_⟩
  obtain ⟨rfl, y⟩ := y
  have z := y _ s'
  rw [h1] at z
  cases z
  exact ⟨Ex.refl _, h2.mono e⟩
theorem wk_tup {a : Addr} {xs : List V} {ds : List D} (s : SqT c.K G a xs) (r : RepAll c dr.da G xs ds) : Wk c dr (Itt c.K a) G ds := fun i O H e _ _ => by
  have s' : SqT c.K H a xs := (e.trans vis_ex).st s
  refine ⟨fun d h => ?_, fun h => ⟨xs, s', by rw [r.length]; exact Nat.le_of_eq h⟩⟩
  obtain ⟨v, h1, h2⟩ := r.get h
  refine ⟨⟨xs, v, s', h1⟩, fun x H' y => ?_⟩
  obtain ⟨rfl, y⟩ := y
  have z := y xs s'
  rw [h1] at z
  cases z
  exact ⟨Ex.refl _, h2.mono e⟩
theorem wk_str {x : Str} : Wk c dr (Its x) G (x.cps.toList.map fun c => D.str ⟨#[c]⟩) := fun i O H e _ _ => by
  refine ⟨fun d h => ?_, fun h => ?_⟩
  · rw [List.getElem?_map] at h
    cases q : x.cps.toList[i]? with
    | none =>
      rw [q] at h
      cases h
    | some k =>
      rw [q] at h
      cases h
      have hl := (List.getElem?_eq_some_iff.mp q).1
      refine ⟨by show i < x.cps.size; simpa using hl, fun v H' y => ?_⟩
      obtain ⟨rfl, k', hk, rfl⟩ := y
      have hk2 : x.cps.toList[i]? = some k' := by simpa using hk
      rw [q] at hk2
      cases hk2
      exact ⟨Ex.refl _, .str _⟩
  · show x.cps.size ≤ i
    simpa using Nat.le_of_eq h
theorem wk_rng {lo : Int} {n : Nat} : Wk c dr (Itr lo n) G ((List.range n).map fun (i : Nat) => D.int (lo + (i : Int))) := fun i O H e _ _ => by
  refine ⟨fun d h => ?_, fun h => ?_⟩
  · rw [List.getElem?_map] at h
    cases q : (List.range n)[i]? with
    | none =>
      rw [q] at h
      cases h
    | some k =>
      rw [q] at h
      cases h
      obtain ⟨hl, hk⟩ := List.getElem?_eq_some_iff.mp q
      rw [List.getElem_range] at hk
      subst hk
      refine ⟨by show i < n; simpa using hl, fun v H' y => ?_⟩
      obtain ⟨rfl, rfl⟩ := y
      exact ⟨Ex.refl _, .int _⟩
  · show n ≤ i
    simpa using Nat.le_of_eq h
end
section
variable {X : Cx} {tg l e : Expr} {pos p : Pos} {fe : M RV} {fa : M (List RV)}
theorem fi_val (he : FE X l fe) : FI X tg l (bindM fe fun r => iterM r) := fun F => ⟨fun pins s σ H R I q => by
  obtain ⟨O, ρ, w, ds, ρ', w', S, e, k⟩ := q
  obtain ⟨r, ρ1, w1, e1, e2⟩ := bindM_some e
  obtain ⟨d, ρ2, w2, e3, e4⟩ := bindM_some e2
  have go : ∀ (Q : VK), (∀ v O2 H2, SR (ct X) F O2 ρ2 w2 σ H2 → Ex (vis O H) (vis O2 H2) → Rep (ct X) F.dr.da (vis O2 H2) v d → Q v H2) → tE (ct X) F fe σ H Q := fun Q hq => ⟨O, ρ, w, r, ρ1, w1, S, e1, fun v O1 H1 S1 x1 R1 => by
    obtain ⟨rfl, O2, S2, k2, r2⟩ := escR_ok S1 R1.hold e3
    exact hq v O2 H1 S2 (x1.trans k2) r2⟩
  cases d with
  | lst es =>
    cases e4
    refine (pi_list (he F)).run pins s σ H R I (go _ fun v O2 H2 S2 x2 r2 => ?_)
    cases r2 with
    | lst s r => exact ⟨_, rfl, ⟨_, vis_ex.sl (SqL.of s)⟩, k _ O2 H2 S2 x2 (wk_list s r)⟩
  | tup es =>
    cases e4
    refine (pi_tup (he F)).run pins s σ H R I (go _ fun v O2 H2 S2 x2 r2 => ?_)
    cases r2 with
    | tup s r => exact ⟨_, rfl, ⟨_, .inl (.inl (vis_ex _ _ s))⟩, k _ O2 H2 S2 x2 (wk_tup (.inl (.inl s)) r)⟩
  | ktup es =>
    cases e4
    refine (pi_tup (he F)).run pins s σ H R I (go _ fun v O2 H2 S2 x2 r2 => ?_)
    cases r2 with
    | ktup s r => exact ⟨_, rfl, ⟨_, vis_ex.st s⟩, k _ O2 H2 S2 x2 (wk_tup s r)⟩
  | str x =>
    cases e4
    refine (pi_str (he F)).run pins s σ H R I (go _ fun v O2 H2 S2 x2 r2 => ?_)
    cases r2
    exact ⟨_, rfl, k _ O2 H2 S2 x2 wk_str⟩
  | scr ns =>
    cases e4
    refine (pi_list (he F)).run pins s σ H R I (go _ fun v O2 H2 S2 x2 r2 => ?_)
    cases r2 with
    | scr s => exact ⟨_, rfl, ⟨_, vis_ex.sl s⟩, k _ O2 H2 S2 x2 (wk_scr s)⟩
  | _ => cases e4⟩
/-- range(n) -/
def rangeM (rs : List RV) : M (List D) := fun ρ w => match peeks ρ w rs with
  | some [.int n] => if -1000000 ≤ n ∧ n ≤ 1000000 then some ((List.range n.toNat).map fun (i : Nat) => D.int (i : Int), ρ, w) else none
  | some [.int a, .int b] => if (-1000000 ≤ a ∧ a ≤ 1000000) ∧ (-1000000 ≤ b ∧ b ≤ 1000000) then some ((List.range (b - a).toNat).map fun (i : Nat) => D.int (a + (i : Int)), ρ, w) else none
  | _ => none
theorem fi_range1 (hg : Gl X "range") (hm : X.mg "range" = none) (ha : FA X [e] fa) (hs : starEach [e] X.env = [(false, eval e X.env)] := by rfl) : FI X tg (.Call (.Name "range" p) [e] [] pos) (bindM fa fun rs => rangeM rs) := fun F => ⟨fun pins s σ H R I q => by
  obtain ⟨O, ρ, w, ds, ρ', w', S, e, k⟩ := q
  refine (pi_range1 hg hm (ha.run F) hs).run pins s σ H R I ?_
  refine tA_then S e fun vs O1 ρ1 w1 H1 rs S1 e1 R1 f1 h1 => ?_
  have hl := ha.len _ _ _ _ _ f1
  unfold rangeM at h1
  split at h1
  · rename_i n hp
    split at h1
    · rename_i hn
      cases h1
      have P := R1.peeks S1 hp
      cases P with
      | cons p1 p2 =>
        cases p2
        have z := p1.int
        subst z
        refine ⟨n, rfl, by omega, by omega, k _ O1 H1 S1 e1 ?_⟩
        have W := wk_rng (c := ct X) (dr := F.dr) (G := vis O1 H1) (lo := 0) (n := n.toNat)
        simpa using W
    · cases h1
  · rename_i a b hp
    have P := R1.peeks S1 hp
    cases P with
    | cons _ p2 =>
      cases p2 with
      | cons _ p3 =>
        cases p3
        have := R1.length
        rw [hl] at this
        simp at this
  · cases h1⟩
/-! ### for -/
def forL (asg : D → M Unit) (body : M Fl) : List D → M Fl
  | [] => pureM .nx
  | d :: ds => bindM (asg d) fun _ => bindM body fun fl => match fl with
    | .nx => forL asg body ds
    | .ct => forL asg body ds
    | .bk => pureM .nx
    | .ret r => pureM (.ret r)
def forM (fi : M (List D)) (asg : D → M Unit) (body : M Fl) : M Fl := bindM fi fun ds => forL asg body ds
theorem fs_for {iter : Expr} {body : List Stmt} {fi : M (List D)} {js : List Nat} {g : D → M Unit} {fb : M Fl} (hp : PassesOwn (model X.prog X.w) X.A X.env X.xe) (hc : X.calm = true) (hi : FI X tg iter fi) (hg : FG X tg js g) (hb : FSs X body fb)
    (hs : ∀ x, foldedSetIterable iter X.env x = pure x := by intro _; rfl) : FS X (.For tg iter body [] pos) (forM fi g fb) := fun F => PS.wk (ps_for hp hc (hi F) (hg F) (hb F) hs) fun E σ H q => by
  obtain ⟨O, ρ, w, fl, ρ', w', S, e, k⟩ := q
  obtain ⟨ds, ρ1, w1, e1, e2⟩ := bindM_some e
  refine ⟨O, ρ, w, ds, ρ1, w1, S, e1, fun J O1 H1 S1 x1 W => ?_⟩
  refine ⟨fun i m σ' H' => m = ds.length - i ∧ i ≤ ds.length ∧ ∃ O' ρ' w' z, SR (ct X) F O' ρ' w' σ' H' ∧ Ex (vis O1 H1) (vis O' H') ∧ forL g fb (ds.drop i) ρ' w' = some z ∧ Done (ct X) F (vis O1 H1) z.1 z.2.1 z.2.2 E, ⟨ds.length, by simp, Nat.zero_le _, O1, ρ1, w1, (fl, ρ', w'), S1, Ex.refl _, by simpa using e2, k.more x1⟩, ?_⟩
  rintro i m σ' H' ⟨rfl, hi, O2, ρ2, w2, z, S2, x2, e3, k3⟩
  obtain ⟨hgo, hstop⟩ := W i O2 H' x2 S2.trk S2.cel
  by_cases hlt : i < ds.length
  · obtain ⟨go, yld⟩ := hgo ds[i] (by simp [hlt])
    rw [List.drop_eq_getElem_cons hlt] at e3
    obtain ⟨_, ρ3, w3, e4, e5⟩ := bindM_some e3
    obtain ⟨f4, ρ4, w4, e6, e7⟩ := bindM_some e5
    refine .inr ⟨go, fun σ5 H5 => ∃ O' ρ' w' z, SR (ct X) F O' ρ' w' σ5 H5 ∧ Ex (vis O1 H1) (vis O' H5) ∧ forL g fb (ds.drop (i + 1)) ρ' w' = some z ∧ Done (ct X) F (vis O1 H1) z.1 z.2.1 z.2.2 E, fun σ5 H5 n => ⟨ds.length - (i + 1), by omega, rfl, hlt, n⟩, fun x H3 y => ?_⟩
    obtain ⟨x3, r3⟩ := yld x H3 y
    have x3' := vis_mono (O := O2) x3
    refine ⟨O2, ρ2, w2, ds[i], ρ3, w3, S2.grow x3, r3, e4, fun σ6 O6 S6 x6 _ _ => ⟨O6, ρ3, w3, f4, ρ4, w4, S6, e6, ?_⟩⟩
    have x7 : Ex (vis O1 H1) (vis O6 H3) := (x2.trans x3').trans x6
    cases f4 with
    | nx => exact fun σ8 O8 H8 S8 x8 => ⟨O8, ρ4, w4, z, S8, x7.trans x8, e7, k3⟩
    | ct => exact fun σ8 O8 H8 S8 x8 => ⟨O8, ρ4, w4, z, S8, x7.trans x8, e7, k3⟩
    | bk =>
      cases e7
      exact fun σ8 O8 H8 S8 x8 => k3 σ8 O8 H8 S8 (x7.trans x8)
    | ret r =>
      cases e7
      exact fun v σ8 O8 H8 S8 R8 => k3 v σ8 O8 H8 S8 (R8.less x7)
  · have ei : i = ds.length := by omega
    subst ei
    rw [List.drop_length] at e3
    cases e3
    exact .inl ⟨hstop rfl, k3 σ' O2 H' S2 x2⟩

/-! ### while -/
def whileM (t : M Bool) (body : M Fl) : Nat → M Fl
  | 0 => failM
  | n + 1 => bindM t fun b => if b then bindM body fun fl => match fl with
      | .nx => whileM t body n
      | .ct => whileM t body n
      | .bk => pureM .nx
      | .ret r => pureM (.ret r)
    else pureM .nx
theorem fs_while {c : Expr} {body : List Stmt} {t : M Bool} {fb : M Fl} (n : Nat) (hp : PassesOwn (model X.prog X.w) X.A X.env X.xe) (hc : FT X c t) (hb : FSs X body fb) : FS X (.While c body [] pos) (whileM t fb n) := fun F => PS.wk (ps_while hp (hc F) (hb F)) fun E σ H q => by
  obtain ⟨O, ρ, w, fl, ρ', w', S, e, k⟩ := q
  refine ⟨fun m σ' H' => ∃ O' ρ' w' z, SR (ct X) F O' ρ' w' σ' H' ∧ Ex (vis O H) (vis O' H') ∧ whileM t fb m ρ' w' = some z ∧ Done (ct X) F (vis O H) z.1 z.2.1 z.2.2 E, ⟨n, O, ρ, w, (fl, ρ', w'), S, Ex.refl _, e, k⟩, ?_⟩
  rintro m σ' H' ⟨O2, ρ2, w2, z, S2, x2, e2, k2⟩
  cases m with
  | zero => cases e2
  | succ m =>
    refine tT_then S2 e2 fun b O3 ρ3 w3 H3 S3 x3 h3 => ?_
    cases b with
    | false =>
      cases h3
      show E.nx σ' H3
      exact k2 σ' O3 H3 S3 (x2.trans x3)
    | true =>
      obtain ⟨f4, ρ4, w4, e6, e7⟩ := bindM_some (f := fb) (show bindM fb _ ρ3 w3 = some z from h3)
      have x7 := x2.trans x3
      refine ⟨fun σ5 H5 => ∃ O' ρ' w' z, SR (ct X) F O' ρ' w' σ5 H5 ∧ Ex (vis O H) (vis O' H5) ∧ whileM t fb m ρ' w' = some z ∧ Done (ct X) F (vis O H) z.1 z.2.1 z.2.2 E, fun σ5 H5 n => ⟨m, Nat.lt_succ_self m, n⟩, O3, ρ3, w3, f4, ρ4, w4, S3, e6, ?_⟩
      cases f4 with
      | nx => exact fun σ8 O8 H8 S8 x8 => ⟨O8, ρ4, w4, z, S8, x7.trans x8, e7, k2⟩
      | ct => exact fun σ8 O8 H8 S8 x8 => ⟨O8, ρ4, w4, z, S8, x7.trans x8, e7, k2⟩
      | bk =>
        cases e7
        exact fun σ8 O8 H8 S8 x8 => k2 σ8 O8 H8 S8 (x7.trans x8)
      | ret r =>
        cases e7
        exact fun v σ8 O8 H8 S8 R8 => k2 v σ8 O8 H8 S8 (R8.less x7)
end
end FD

end sec_FD5
section sec_FD6
set_option maxRecDepth 100000
set_option maxHeartbeats 5000000
/-! FD6: list comprehensions. -/
namespace FD
open PySem L2
variable [Tabl]
section
variable {c : Ct} {F : Fm} {O O' : List Addr} {ρ : Env} {w : W} {σ : L2.St} {H : Hp} {a : Addr}
theorem vis_congr (h : ∀ a, a ∈ O ↔ a ∈ O') : vis O H = vis O' H := by
  funext b
  by_cases q : b ∈ O
  · rw [vis_in q, vis_in ((h b).mp q)]
  · rw [vis_out q, vis_out fun z => q ((h b).mpr z)]
theorem SR.congr (S : SR c F O ρ w σ H) (h : ∀ a, a ∈ O ↔ a ∈ O') : SR c F O' ρ w σ H where
  len := S.len
  base := S.base
  new := fun b m n => S.new b ((h b).mpr m) n
  sub := fun b m => (h b).mp (S.sub b m)
  drs := S.drs
  trk := fun b m => S.trk b ((h b).mpr m)
  draw := S.draw.to (Ex.refl _) (by rw [vis_congr h]; exact Ex.refl _)
  val := fun i d q => by rw [← vis_congr h]; exact S.val i d q
  own := fun i d q => by
    rw [← vis_congr h]
    obtain ⟨b, o, h1, h2, h3⟩ := S.own i d q
    exact ⟨b, o, h1, (h b).mp h2, h3⟩
  uni := S.uni
/-- a hidden thing of no slot is shown -/
theorem SR.show (S : SR c F O ρ w σ H) (h0 : a ∉ F.O0) (nu : ∀ (j : Nat) e, ρ[j]? = some (some (Slot.own e)) → σ[j]? ≠ some (some (V.ref a))) : SR c F (O.filter fun b => decide (b ≠ a)) ρ w σ H ∧ Ex (vis O H) (vis (O.filter fun b => decide (b ≠ a)) H) := by
  have sub : ∀ b, b ∈ O.filter (fun b => decide (b ≠ a)) ↔ b ∈ O ∧ b ≠ a := fun b => by simp [List.mem_filter]
  have k : Ex (vis O H) (vis (O.filter (fun b => decide (b ≠ a))) H) := vis_sub fun b hb => ((sub b).mp hb).1
  refine ⟨⟨S.len, S.base, fun b hb => S.new b ((sub b).mp hb).1, fun b hb => (sub b).mpr ⟨S.sub b hb, fun z => h0 (z ▸ hb)⟩, S.drs, fun b hb => S.trk b ((sub b).mp hb).1, S.draw.to (Ex.refl _) k, fun j e q => ?_, fun j e q => ?_, S.uni⟩, k⟩
  · obtain ⟨v, q1, q2⟩ := S.val j e q
    exact ⟨v, q1, q2.mono k⟩
  · obtain ⟨b, u, q1, q2, q3, q4, q5⟩ := S.own j e q
    refine ⟨b, u, q1, (sub b).mpr ⟨q2, fun z => ?_⟩, q3, q4, q5.mono k⟩
    rw [z] at q1
    exact nu j e q q1
theorem tabs_upd {T : List (Addr × Str)} {H : Hp} {a : Addr} {o0 o : HO} (t : LamX.Tabs T H) (na : ∀ p ∈ T, p.1 ≠ a) (e0 : H a = some o0) (nx : ∀ φ, o0 ≠ .ext φ) : LamX.Tabs T (upd H a o) := fun p hp => by
  obtain ⟨ps, h1, h2, h3⟩ := t p hp
  refine ⟨ps, by rw [upd_ne (na p hp)]; exact h1, h2, fun pos cv hc => ?_⟩
  obtain ⟨c, e1, e2⟩ := h3 pos cv hc
  refine ⟨c, e1, ?_⟩
  rw [upd_ne fun z => ?_]
  · exact e2
  · rw [z, e0] at e2
    exact nx _ (Option.some.inj e2)
theorem DS.poke {dr : Dr} {w : W} {O : List Addr} {H : Hp} {a : Addr} {o0 o : HO} (h : DS c dr w O H) (nd : ∀ b ∈ dr.as, b ≠ a) (hO : a ∈ O) (e0 : H a = some o0) (nx : ∀ φ, o0 ≠ .ext φ) : DS c dr w O (upd H a o) :=
  ⟨⟨fun t q => let ⟨q1, q2, q3, q4⟩ := h.d.1 t q; ⟨by rw [upd_ne (nd _ (Dr.mem1 q))]; exact q1, by rw [upd_ne (nd _ (Dr.mem2 q))]; exact q2, by rw [upd_ne (nd _ (Dr.mem3 q))]; exact q3, q4⟩, tabs_upd h.d.2 (fun p hp => nd p.1 (Dr.tab hp)) e0 nx⟩,
    h.s.mono (by rw [vis_upd hO]; exact Ex.refl _) fun b hb u q => by rw [upd_ne (nd b (Dr.memo hb))]; exact q⟩
/-- a hidden thing of no slot is changed -/
theorem SR.poke {o0 : HO} (S : SR c F O ρ w σ H) (e0 : H a = some o0) (nx : ∀ φ, o0 ≠ .ext φ) (hO : a ∈ O) (h0 : a ∉ F.O0) (nu : ∀ (j : Nat) e, ρ[j]? = some (some (Slot.own e)) → σ[j]? ≠ some (some (V.ref a))) (o : HO) (nt : NT o := by intro _ z; cases z) : SR c F O ρ w σ (upd H a o) where
  len := S.len
  base := fun b u h n => by
    rw [upd_ne fun z => ?_]
    · exact S.base b u h n
    · rw [z, S.new a hO h0] at h
      cases h
  new := S.new
  sub := S.sub
  drs := S.drs
  trk := fun b h => by
    by_cases z : b = a
    · rw [z]
      exact ⟨o, upd_same, nt⟩
    · rw [upd_ne z]
      exact S.trk b h
  draw := by
    have nd : ∀ b ∈ F.dr.as, b ≠ a := fun b hb z => h0 (z ▸ S.drs b hb)
    exact S.draw.poke nd hO e0 nx
  val := fun i d q => by
    rw [vis_upd hO]
    exact S.val i d q
  own := fun i d q => by
    rw [vis_upd hO]
    obtain ⟨b, u, q1, q2, q3, q4, q5⟩ := S.own i d q
    refine ⟨b, u, q1, q2, q3, ?_, q5⟩
    rw [upd_ne fun z => ?_]
    · exact q4
    · rw [z] at q1
      exact nu i d q q1
  uni := S.uni
theorem SR.setNone (S : SR c F O ρ w σ H) (i : Nat) : SR c F O (ρ.set i none) w (σ.set i none) H where
  len := by rw [List.length_set, List.length_set]; exact S.len
  base := S.base
  new := S.new
  sub := S.sub
  drs := S.drs
  trk := S.trk
  draw := S.draw
  val := fun j e h => by
    rcases getElem?_set_some h with ⟨rfl, z⟩ | ⟨n, h⟩
    · cases z
    · obtain ⟨u, h1, h2⟩ := S.val j e h
      exact ⟨u, by rw [List.getElem?_set_ne n]; exact h1, h2⟩
  own := fun j e h => by
    rcases getElem?_set_some h with ⟨rfl, z⟩ | ⟨n, h⟩
    · cases z
    · obtain ⟨a, o, h1, h2⟩ := S.own j e h
      exact ⟨a, o, by rw [List.getElem?_set_ne n]; exact h1, h2⟩
  uni := fun j j' e e' a h h' q q' => by
    rcases getElem?_set_some h with ⟨rfl, z⟩ | ⟨n, h⟩
    · cases z
    · rcases getElem?_set_some h' with ⟨rfl, z⟩ | ⟨n', h'⟩
      · cases z
      · rw [List.getElem?_set_ne n] at q
        rw [List.getElem?_set_ne n'] at q'
        exact S.uni j j' e e' a h h' q q'
def wipeE (ρ : Env) : List Nat → Env
  | [] => ρ
  | v :: vs => (wipeE ρ vs).set v none
theorem SR.wipe (S : SR c F O ρ w σ H) : ∀ vs : List Nat, SR c F O (wipeE ρ vs) w (L2.wipe σ vs) H
  | [] => S
  | v :: vs => (SR.wipe S vs).setNone v
/-- no slot of these is an own one -/
def noOwn (ρ : Env) (vs : List Nat) : Bool := vs.all fun i => match ρ[i]? with
  | some (some (.own _)) => false
  | _ => true
def restE (ρ0 ρ : Env) : List Nat → Env
  | [] => ρ
  | v :: vs => (restE ρ0 ρ vs).set v (ρ0[v]?.getD none)
theorem restE_len (ρ0 ρ : Env) : ∀ vs : List Nat, (restE ρ0 ρ vs).length = ρ.length
  | [] => rfl
  | v :: vs => by unfold restE; rw [List.length_set, restE_len ρ0 ρ vs]
theorem restE_get {ρ0 ρ : Env} {i : Nat} {s : Option Slot} : ∀ {vs : List Nat}, (restE ρ0 ρ vs)[i]? = some s → (i ∈ vs ∧ s = ρ0[i]?.getD none) ∨ (i ∉ vs ∧ ρ[i]? = some s)
  | [], h => .inr ⟨by simp, h⟩
  | v :: vs, h => by
    unfold restE at h
    rcases getElem?_set_some h with ⟨rfl, z⟩ | ⟨n, h⟩
    · exact .inl ⟨List.mem_cons_self, z.symm⟩
    · rcases restE_get h with ⟨m, z⟩ | ⟨m, z⟩
      · exact .inl ⟨List.mem_cons_of_mem _ m, z⟩
      · refine .inr ⟨fun y => ?_, z⟩
        rcases List.mem_cons.mp y with y | y
        · exact n y.symm
        · exact m y
theorem SR.rest {ρ2 : Env} {w2 : W} {O2 : List Addr} {H2 : Hp} {vs : List Nat} (S : SR c F O ρ w σ H) (no : noOwn ρ vs = true) (S2 : SR c F O2 ρ2 w2 (L2.wipe σ vs) H2) (x : Ex (vis O H) (vis O2 H2)) : SR c F O2 (restE ρ ρ2 vs) w2 σ H2 := by
  have nv : ∀ i ∈ vs, ∀ d, ρ[i]? ≠ some (some (Slot.own d)) := fun i hi d q => by
    have z := List.all_eq_true.mp no i hi
    rw [q] at z
    cases z
  have own' : ∀ {i : Nat} {d : D}, (restE ρ ρ2 vs)[i]? = some (some (Slot.own d)) → i ∉ vs ∧ ρ2[i]? = some (some (Slot.own d)) := fun {i d} h => by
    rcases restE_get h with ⟨m, z⟩ | h
    · cases q : ρ[i]? with
      | none =>
        rw [q] at z
        cases z
      | some t =>
        rw [q] at z
        have z' : some (Slot.own d) = t := z
        subst z'
        exact absurd q (nv i m d)
    · exact h
  refine ⟨by rw [restE_len, S2.len, wipe_length], S2.base, S2.new, S2.sub, S2.drs, S2.trk, S2.draw, fun i d h => ?_, fun i d h => ?_, fun i j d d' b h h' q q' => ?_⟩
  · rcases restE_get h with ⟨m, z⟩ | ⟨m, h⟩
    · cases q : ρ[i]? with
      | none =>
        rw [q] at z
        cases z
      | some t =>
        rw [q] at z
        have z' : some (Slot.val d) = t := z
        subst z'
        obtain ⟨v, h1, h2⟩ := S.val i d q
        exact ⟨v, h1, h2.mono x⟩
    · obtain ⟨v, h1, h2⟩ := S2.val i d h
      exact ⟨v, by rw [wipe_out m] at h1; exact h1, h2⟩
  · obtain ⟨m, h⟩ := own' h
    obtain ⟨b, o, h1, h2⟩ := S2.own i d h
    exact ⟨b, o, by rw [wipe_out m] at h1; exact h1, h2⟩
  · obtain ⟨m, h⟩ := own' h
    obtain ⟨m', h'⟩ := own' h'
    exact S2.uni i j d d' b h h' (by rw [wipe_out m]; exact q) (by rw [wipe_out m']; exact q')
end

/-- a comprehension's tests -/
def FTs (X : Cx) (ifs : List Expr) (t : M Bool) : Prop := ∀ F, PTs X ifs (tT (ct X) F t)
theorem PTs.wk {X : Cx} {e : List Expr} {t t' : TT} (h : PTs X e t) (k : ∀ σ H Q, t' σ H Q → t σ H Q) : PTs X e t' := ⟨fun pins s σ H Q I q => h.run pins s σ H Q I (k σ H Q q)⟩
theorem fts_nil {X : Cx} : FTs X [] (pureM true) := fun F => PTs.wk pts_nil fun σ H Q q => by
  obtain ⟨O, ρ, w, r, ρ', w', S, e, k⟩ := q
  cases e
  exact k O H S (Ex.refl _)
theorem fts_one {X : Cx} {e : Expr} {t : M Bool} (h : FT X e t) : FTs X [e] t := fun F => pts_one (h F)
/-- whatever the frame -/
def eE (c : Ct) (f : M RV) : TE := fun σ H Q => ∃ F, tE c F f σ H Q
def eT (c : Ct) (f : M Bool) : TT := fun σ H Q => ∃ F, tT c F f σ H Q
def eG (c : Ct) (js : List Nat) (g : D → M Unit) : TG := fun v σ H Q => ∃ F, tG c F js g v σ H Q
def eI (c : Ct) (f : M (List D)) : TI := fun σ H R => ∃ F, tI c F f σ H R
theorem FE.any {X : Cx} {e : Expr} {f : M RV} (h : FE X e f) : PE X e (eE (ct X) f) := ⟨fun pins s σ H Q I ⟨F, q⟩ => (h F).run pins s σ H Q I q⟩
theorem FTs.any {X : Cx} {e : List Expr} {f : M Bool} (h : FTs X e f) : PTs X e (eT (ct X) f) := ⟨fun pins s σ H Q I ⟨F, q⟩ => (h F).run pins s σ H Q I q⟩
theorem FG.any {X : Cx} {e : Expr} {js : List Nat} {g : D → M Unit} (h : FG X e js g) : PG X e (eG (ct X) js g) := ⟨fun pins s σ H v u Q I r ⟨F, q⟩ => (h F).run pins s σ H v u Q I r q⟩
theorem FI.any {X : Cx} {t e : Expr} {f : M (List D)} (h : FI X t e f) : PI X t e (eI (ct X) f) := ⟨fun pins s σ H Q I ⟨F, q⟩ => (h F).run pins s σ H Q I q⟩

/-! ### [elt for target in iter if ..] -/
def lcTurn (asg : D → M Unit) (test : M Bool) (elt : M RV) (d : D) : M (Option D) := bindM (asg d) fun _ => bindM test fun b => if b then bindM elt fun r => bindM (escR r) fun y => pureM (some y) else pureM none
def wipeM (vs : List Nat) : M Unit := fun ρ w => some ((), wipeE ρ vs, w)
def lcL (vs : List Nat) (asg : D → M Unit) (test : M Bool) (elt : M RV) : List D → M (List D)
  | [] => pureM []
  | d :: ds => bindM (lcTurn asg test elt d) fun y => bindM (wipeM vs) fun _ => bindM (lcL vs asg test elt ds) fun ys => pureM (y.toList ++ ys)
def lcM (fi : M (List D)) (vs : List Nat) (asg : D → M Unit) (test : M Bool) (elt : M RV) : M RV := bindM fi fun ds => fun ρ w =>
  if noOwn ρ vs = true ∧ ds.length ≤ 1000000 then match lcL vs asg test elt ds (wipeE ρ vs) w with
    | some (ys, ρ2, w2) => some (.fr (.lst ys), restE ρ ρ2 vs, w2)
    | none => none
  else none
theorem wipe_same {σ σ' : L2.St} {js vs : List Nat} (hl : σ'.length = σ.length) (h : ∀ j, j ∉ js → σ'[j]? = σ[j]?) (hj : ∀ j ∈ js, j ∈ vs) : L2.wipe σ' vs = L2.wipe σ vs := by
  apply List.ext_getElem?
  intro i
  by_cases m : i ∈ vs
  · have q : ∀ τ : L2.St, (L2.wipe τ vs)[i]? = if i < τ.length then some none else none := by
      intro τ
      clear hj h hl
      induction vs with
      | nil => cases m
      | cons v vs ih =>
        unfold L2.wipe
        by_cases e : v = i
        · subst e
          by_cases l : v < τ.length
          · rw [if_pos l, List.getElem?_set_self (by rw [wipe_length]; exact l)]
          · rw [if_neg l, List.getElem?_eq_none (by rw [List.length_set, wipe_length]; omega)]
        · rw [List.getElem?_set_ne e]
          rcases List.mem_cons.mp m with z | z
          · exact absurd z.symm e
          · exact ih z
    rw [q, q, hl]
  · rw [wipe_out m, wipe_out m]
    exact h i fun z => m (hj i z)
theorem wipe_wipe {σ : L2.St} (vs : List Nat) : L2.wipe (L2.wipe σ vs) vs = L2.wipe σ vs := wipe_same (wipe_length σ vs) (js := vs) (fun j hj => wipe_out hj) fun _ h => h
section
variable {c : Ct} {F : Fm} {σ : L2.St} {H : Hp} {Q : VK}
theorem lc_read {fi : M (List D)} {vs js : List Nat} {g : D → M Unit} {tt : M Bool} {fe : M RV} (hj : ∀ j ∈ js, j ∈ vs) (h : tE c F (lcM fi vs g tt fe) σ H Q) : tLc (eI c fi) (eG c js g) (eT c tt) (eE c fe) vs σ H Q := by
  obtain ⟨O, ρ, w, r, ρ', w', S, e, k⟩ := h
  obtain ⟨ds, ρ1, w1, e1, e2⟩ := bindM_some e
  by_cases hc : noOwn ρ1 vs = true ∧ ds.length ≤ 1000000
  · rw [if_pos hc] at e2
    obtain ⟨no, hl⟩ := hc
    split at e2
    · rename_i ys ρ2 w2 e3
      cases e2
      refine ⟨F, O, ρ, w, ds, ρ1, w1, S, e1, fun J O1 H1 S1 x1 W => ?_⟩
      intro Dl hD
      obtain ⟨S2, n2, k2⟩ := S1.hide hD (Ex.new (o := .lst []) hD) upd_same
      have nF : Dl ∉ F.O0 := fun z => n2 (S1.sub Dl z)
      have nu : ∀ {ρx : Env} {j : Nat} {e : D}, (∀ j e, ρx[j]? = some (some (Slot.own e)) → ∃ (a : Addr) (o : HO), (σ[j]? = some (some (V.ref a)) ∧ a ∈ O1)) → ρx[j]? = some (some (Slot.own e)) → σ[j]? ≠ some (some (V.ref Dl)) := fun hx q z => by
        obtain ⟨a, o, h1, h2⟩ := hx _ _ q
        rw [h1] at z
        cases z
        exact n2 h2
      -- the invariant
      refine ⟨fun i m H' => m = ds.length - i ∧ i ≤ ds.length ∧ ∃ O' ρ' wv acc dacc zs, SR c F O' ρ' wv (L2.wipe σ vs) H' ∧ Dl ∈ O' ∧ (∀ (j : Nat) e, ρ'[j]? = some (some (Slot.own e)) → (L2.wipe σ vs)[j]? ≠ some (some (V.ref Dl))) ∧ H' Dl = some (.lst acc) ∧ acc.length ≤ i ∧ RepAll c F.dr.da (vis O' H') acc dacc ∧
        Ex (vis O1 H1) (vis O' H') ∧ lcL vs g tt fe (ds.drop i) ρ' wv = some (zs, ρ2, w') ∧ dacc ++ zs = ys, ⟨ds.length, by simp, Nat.zero_le _, Dl :: O1, _, _, [], [], ys, S2.wipe vs, List.mem_cons_self, fun j e q z => ?_, upd_same, Nat.le_refl _, .nil, k2, by simpa using e3, rfl⟩, ?_⟩
      · obtain ⟨a, o, h1, h2, _⟩ := (S1.wipe vs).own j e q
        rw [h1] at z
        cases z
        exact n2 h2
      rintro i m H' ⟨rfl, hi, O3, ρ3, w3, acc, dacc, zs, S3, m3, u3, q3, l3, r3, x3, e4, ey⟩
      obtain ⟨hgo, hstop⟩ := W i O3 H' x3 S3.trk S3.cel
      by_cases hlt : i < ds.length
      · obtain ⟨go, yld⟩ := hgo ds[i] (by simp [hlt])
        rw [List.drop_eq_getElem_cons hlt] at e4
        obtain ⟨y, ρ4, w4, e5, e6⟩ := bindM_some e4
        obtain ⟨_, ρ5, w5, e7, e8⟩ := bindM_some e6
        obtain ⟨zs', ρ6, w6, e9, e10⟩ := bindM_some e8
        cases e7
        cases e10
        obtain ⟨_, ρ7, w7, e11, e12⟩ := bindM_some e5
        obtain ⟨b, ρ8, w8, e13, e14⟩ := bindM_some e12
        refine .inr ⟨go, fun H9 => ∃ O' ρ' wv acc dacc zs, SR c F O' ρ' wv (L2.wipe σ vs) H9 ∧ Dl ∈ O' ∧ (∀ (j : Nat) e, ρ'[j]? = some (some (Slot.own e)) → (L2.wipe σ vs)[j]? ≠ some (some (V.ref Dl))) ∧ H9 Dl = some (.lst acc) ∧ acc.length ≤ i + 1 ∧ RepAll c F.dr.da (vis O' H9) acc dacc ∧
          Ex (vis O1 H1) (vis O' H9) ∧ lcL vs g tt fe (ds.drop (i + 1)) ρ' wv = some (zs, ρ2, w') ∧ dacc ++ zs = ys, fun H9 n => ⟨ds.length - (i + 1), by omega, rfl, hlt, n⟩, fun x H4 yy => ?_⟩
        obtain ⟨x4, r4⟩ := yld x H4 yy
        have S4 := S3.grow x4
        have q4 := x4 _ _ q3
        have S5 : SR c (F.and Dl (.lst acc)) O3 ρ3 w3 (L2.wipe σ vs) H4 := ((S4.congr (O' := Dl :: O3) fun b => ⟨fun z => List.mem_cons_of_mem _ z, fun z => (List.mem_cons.mp z).elim (fun y => y ▸ m3) id⟩).in nF u3 q4).congr fun b => ⟨fun z => (List.mem_cons.mp z).elim (fun y => y ▸ m3) id, fun z => List.mem_cons_of_mem _ z⟩
        refine ⟨F.and Dl (.lst acc), O3, ρ3, w3, ds[i], ρ7, w7, S5, r4, e11, fun σ2 O5 S6 x6 hl6 hk6 => ?_⟩
        have ws : L2.wipe σ2 vs = L2.wipe σ vs := (wipe_same hl6 hk6 hj).trans (wipe_wipe vs)
        refine ⟨ws, F.and Dl (.lst acc), O5, ρ7, w7, b, ρ8, w8, S6, e13, fun O7 H7 S7 x7 => ?_⟩
        have x8 : Ex (vis O3 H') (vis O7 H7) := ((vis_mono x4).trans x6).trans x7
        cases b with
        | false =>
          cases e14
          obtain ⟨S8, q8, m8, u8⟩ := S7.out nF (S1.hide hD (Ex.new (o := .lst []) hD) upd_same |>.1.new Dl List.mem_cons_self nF) S1.drs
          have S9 := S8.wipe vs
          rw [ws] at S9
          exact ⟨O7, _, _, acc, dacc, zs', S9, m8, fun j e q z => by
            obtain ⟨a, o, h1, h2, h3, _⟩ := (S7.wipe vs).own j e q
            rw [ws] at h1
            rw [h1] at z
            cases z
            exact h3 List.mem_cons_self, q8, Nat.le_succ_of_le l3, r3.mono x8, x3.trans x8, e9, by simpa using ey⟩
        | true =>
          obtain ⟨r, ρ9, w9, e15, e16⟩ := bindM_some e14
          obtain ⟨yd, ρa, wa, e17, e18⟩ := bindM_some e16
          cases e18
          refine ⟨F.and Dl (.lst acc), O7, ρ8, w8, r, ρ9, w9, S7, e15, fun v O9 H9 S9 x9 R9 => ?_⟩
          obtain ⟨rfl, Oa, Sa, xa, ra⟩ := escR_ok S9 R9.hold e17
          obtain ⟨Sb, qb, mb, ub⟩ := Sa.out nF (S1.hide hD (Ex.new (o := .lst []) hD) upd_same |>.1.new Dl List.mem_cons_self nF) S1.drs
          have xb : Ex (vis O3 H') (vis Oa H9) := (x8.trans x9).trans xa
          refine ⟨acc, qb, Nat.lt_of_le_of_lt (Nat.le_trans l3 (Nat.le_trans hi hl)) (by decide), ?_⟩
          have Sc := (Sb.poke qb (fun _ z => nomatch z) mb nF ub (.lst (acc ++ [v]))).wipe vs
          rw [ws] at Sc
          refine ⟨Oa, _, _, acc ++ [v], dacc ++ [yd], zs', Sc, mb, fun j e q z => ?_, upd_same, by simp; omega, ?_, ?_, e9, by rw [List.append_assoc]; exact ey⟩
          · obtain ⟨a, o, h1, h2, h3, _⟩ := (Sa.wipe vs).own j e q
            rw [ws] at h1
            rw [h1] at z
            cases z
            exact h3 List.mem_cons_self
          · rw [vis_upd mb]
            exact (r3.mono xb).snoc ra
          · rw [vis_upd mb]
            exact x3.trans xb
      · have ei : i = ds.length := by omega
        subst ei
        rw [List.drop_length] at e4
        cases e4
        refine .inl ⟨hstop rfl, ?_⟩
        rw [List.append_nil] at ey
        subst ey
        have Sr := S1.rest no S3 x3
        have ur : ∀ (j : Nat) e, (restE ρ1 ρ2 vs)[j]? = some (some (Slot.own e)) → σ[j]? ≠ some (some (V.ref Dl)) := fun j e q z => by
          rcases restE_get q with ⟨m, y⟩ | ⟨m, y⟩
          · cases hq : ρ1[j]? with
            | none =>
              rw [hq] at y
              cases y
            | some t =>
              rw [hq] at y
              have y' : some (Slot.own e) = t := y
              subst y'
              have z := List.all_eq_true.mp no j m
              rw [hq] at z
              cases z
          · have z' := u3 j e y
            rw [wipe_out m] at z'
            exact z' z
        obtain ⟨Ss, xs⟩ := Sr.show nF ur
        have eqO : ∀ b, b ∈ O3 ↔ b ∈ Dl :: (O3.filter fun b => decide (b ≠ Dl)) := fun b => by
          simp only [List.mem_cons, List.mem_filter, decide_eq_true_eq]
          constructor
          · intro z
            by_cases y : b = Dl
            · exact .inl y
            · exact .inr ⟨z, y⟩
          · rintro (z | z)
            · rw [z]; exact m3
            · exact z.1
        refine k (.ref Dl) (O3.filter fun b => decide (b ≠ Dl)) H' Ss (x1.trans (x3.trans xs)) ⟨Dl, .lst acc, rfl, by simp, Sr.congr eqO, q3, .inl ⟨acc, dacc, rfl, rfl, ?_⟩, ?_⟩
        · rw [← vis_congr eqO]
          exact r3
        · rw [← vis_congr eqO]
          exact x1.trans x3
    · cases e2
  · rw [if_neg hc] at e2
    cases e2
end
section
variable {X : Cx} {elt tg iter : Expr} {ifs : List Expr} {scope : Scope} {own : List (Str × Nat)} {pos spos py : Pos} {fi : M (List D)} {js : List Nat} {g : D → M Unit} {tt : M Bool} {fe : M RV} {i : Nat} {y : Str}
theorem fe_lc (hc : X.calm = true) (hN : X.N.Nodup) (hi : FI X tg iter fi) (ok : BlkOk X.N X.env.scope scope own)
    (hg : ∀ (s : Shared) (H : Hp) (C : Addr) (cl : List (Str × Addr)) (fp : List Addr), FG (X.blk s H scope (compEnvC scope cl C X.env) fp) tg js g) (ht : ∀ (s : Shared) (H : Hp) (C : Addr) (cl : List (Str × Addr)) (fp : List Addr), FTs (X.blk s H scope (compEnvC scope cl C X.env) fp) ifs tt)
    (he : ∀ (s : Shared) (H : Hp) (C : Addr) (cl : List (Str × Addr)) (fp : List Addr), FE (X.blk s H scope (compEnvC scope cl C X.env) fp) elt fe) (hj : ∀ j ∈ js, j ∈ own.map (·.2) := by decide) (hs : ∀ x, foldedSetIterable iter X.env x = pure x := by intro _; rfl) :
    FE X (.ListComp elt [⟨tg, iter, ifs, 0⟩] scope pos) (lcM fi (own.map (·.2)) g tt fe) := fun F =>
  PE.wk (pe_lc hc hN hi.any ok (fun s H C cl fp => (hg s H C cl fp).any) (fun s H C cl fp => (ht s H C cl fp).any) (fun s H C cl fp => (he s H C cl fp).any) hs) fun σ H Q q => lc_read hj q
theorem fs_setLc (hc : X.calm = true) (hN : X.N.Nodup) (hy : X.N[i]? = some y) (hyl : X.env.scope.names.lookup y = some .local)
    (hsw : swapsWith (.ListComp elt [⟨tg, iter, ifs, 0⟩] scope pos) (some (.Name y py)) spos.line X.env = pure true) (hi : FI X tg iter fi) (ok : BlkOk X.N X.env.scope scope own)
    (hg : ∀ (s : Shared) (H : Hp) (C : Addr) (cl : List (Str × Addr)) (fp : List Addr), FG (X.blk s H scope (compEnvC scope cl C X.env) fp) tg js g) (ht : ∀ (s : Shared) (H : Hp) (C : Addr) (cl : List (Str × Addr)) (fp : List Addr), FTs (X.blk s H scope (compEnvC scope cl C X.env) fp) ifs tt)
    (he : ∀ (s : Shared) (H : Hp) (C : Addr) (cl : List (Str × Addr)) (fp : List Addr), FE (X.blk s H scope (compEnvC scope cl C X.env) fp) elt fe) (hj : ∀ j ∈ js, j ∈ own.map (·.2) := by decide) (hs : ∀ x, foldedSetIterable iter X.env x = pure x := by intro _; rfl) :
    FS X (.Assign [.Name y py] (.ListComp elt [⟨tg, iter, ifs, 0⟩] scope pos) spos) (bindM (lcM fi (own.map (·.2)) g tt fe) fun r => nxM (asgM i r)) := fun F =>
  PS.wk (ps_setLc hc hN hy hyl hsw hi.any ok (fun s H C cl fp => (hg s H C cl fp).any) (fun s H C cl fp => (ht s H C cl fp).any) (fun s H C cl fp => (he s H C cl fp).any) hs) fun E σ H q => by
    obtain ⟨O, ρ, w, fl, ρ', w', S, e, k⟩ := q
    refine lc_read (F := F) hj (tE_then S e fun v O1 ρ1 w1 H1 r1 S1 e1 R1 h1 => ?_)
    obtain ⟨_, ρ2, w2, h2, h3⟩ := bindM_some h1
    obtain ⟨rfl, O2, S2, x2⟩ := asg_ok S1 e1 R1 h2
    cases h3
    exact k _ O2 H1 S2 x2
end
end FD

end sec_FD6
section sec_FD7
set_option maxRecDepth 100000
set_option maxHeartbeats 5000000
/-! FD7: a def by its body; __init__ and C(..); stores into what a slot owns. -/
namespace FD
open PySem L2
variable [Tabl]
open PyProof.Rows (envOfC)

/-! ### a def -/
def startE (n : Nat) (ds : List D) : Env := ds.map (fun d => some (Slot.val d)) ++ List.replicate (n - ds.length) none
def outR (ρ : Env) : RV → Option RV
  | .ow i => match ρ[i]? with
    | some (some (.own d)) => some (.fr d)
    | some (some (.val d)) => some (.sh d)
    | _ => none
  | .ob k => some (.sh (.obj k))
  | r => some r
def endB : Option (Fl × Env × W) → Option (RV × W)
  | some (.ret r, ρ, w) => (outR ρ r).map fun r' => (r', w)
  | some (.nx, _, w) => some (.sh .non, w)
  | _ => none
def denB (n : Nat) (body : M Fl) : List D → W → Option (RV × W) := fun ds w => endB (body (startE n ds) w)
theorem startE_own {n : Nat} {ds : List D} {i : Nat} {d : D} (h : (startE n ds)[i]? = some (some (Slot.own d))) : False := by
  unfold startE at h
  rw [List.getElem?_append] at h
  split at h
  · rw [List.getElem?_map] at h
    cases q : ds[i]? with
    | none =>
      rw [q] at h
      cases h
    | some e =>
      rw [q] at h
      cases h
  · rw [List.getElem?_replicate] at h
    split at h
    · cases h
    · cases h
theorem startE_val {n : Nat} {ds : List D} {i : Nat} {d : D} (h : (startE n ds)[i]? = some (some (Slot.val d))) : ds[i]? = some d := by
  unfold startE at h
  rw [List.getElem?_append] at h
  split at h
  · rw [List.getElem?_map] at h
    cases q : ds[i]? with
    | none =>
      rw [q] at h
      cases h
    | some e =>
      rw [q] at h
      cases h
      rfl
  · rw [List.getElem?_replicate] at h
    split at h
    · cases h
    · cases h
theorem start_get {N : List Str} {vs : List V} {i : Nat} {v : V} (h : vs[i]? = some v) : (L2.start N vs)[i]? = some (some v) := by
  unfold L2.start
  rw [List.getElem?_append_left (by rw [List.length_map]; exact (List.getElem?_eq_some_iff.mp h).1), List.getElem?_map, h]
  rfl
section
variable {c : Ct} {F : Fm} {G : Hp} {O : List Addr} {ρ : Env} {w w' : W} {σ : L2.St} {H : Hp} {r r' : RV} {v : V}
theorem outR_ds (S : SR c F O ρ w σ H) (R : RepR c F G O ρ w σ H r v) (e : outR ρ r = some r') : DS c F.dr w (hidO r' v F.O0) H := by
  have lo : ∀ (h : ∀ b ∈ hidO r' v F.O0, b ∈ O), DS c F.dr w (hidO r' v F.O0) H := fun h => S.draw.to (Ex.refl _) (vis_sub h)
  cases r with
  | sh d =>
    cases e
    exact lo S.sub
  | fr d =>
    cases e
    obtain ⟨a, o, rfl, n, S1, q, ob, x1⟩ := R
    refine S1.draw.to (Ex.refl _) (vis_sub fun b hb => ?_)
    rcases List.mem_cons.mp hb with z | z
    · rw [z]
      exact List.mem_cons_self
    · exact List.mem_cons_of_mem _ (S.sub b z)
  | ob k =>
    cases e
    exact lo S.sub
  | ow i =>
    obtain ⟨h1, d, h2⟩ := R
    unfold outR at e
    dsimp only at e
    rw [h2] at e
    cases e
    obtain ⟨a, o, q1, q2, q3, q4, q5⟩ := S.own i d h2
    rw [h1] at q1
    cases q1
    refine lo fun b hb => ?_
    rcases List.mem_cons.mp hb with z | z
    · rw [z]
      exact q2
    · exact S.sub b z
theorem outR_ok (S : SR c F O ρ w σ H) (R : RepR c F G O ρ w σ H r v) (e : outR ρ r = some r') : RepN c F.dr.da F.O0 F.H0 H r' v := by
  cases r with
  | sh d =>
    cases e
    exact Rep.mono (vis_sub S.sub) R
  | fr d =>
    cases e
    obtain ⟨a, o, rfl, n, S1, q, ob, x1⟩ := R
    have nF : a ∉ F.O0 := fun z => n (S.sub a z)
    refine ⟨a, o, rfl, S1.new a List.mem_cons_self nF, q, ob.mono (vis_sub fun b hb => ?_)⟩
    rcases List.mem_cons.mp hb with z | z
    · rw [z]
      exact List.mem_cons_self
    · exact List.mem_cons_of_mem _ (S.sub b z)
  | ob k =>
    cases e
    obtain ⟨a, rfl, ha⟩ := R
    exact .obj ha
  | ow i =>
    obtain ⟨h1, d, h2⟩ := R
    unfold outR at e
    dsimp only at e
    rw [h2] at e
    cases e
    obtain ⟨a, o, q1, q2, q3, q4, q5⟩ := S.own i d h2
    rw [h1] at q1
    cases q1
    refine ⟨a, o, rfl, S.new a q2 q3, q4, q5.mono (vis_sub fun b hb => ?_)⟩
    rcases List.mem_cons.mp hb with z | z
    · rw [z]
      exact q2
    · exact S.sub b z
end
section
variable {P : Program} {w : World} {K : PySem.W.Frag} {mg : Str → Option Value} {base : Heap}
theorem start_sr {dr : Dr} {O0 : List Addr} {wd : W} {N : List Str} {vs : List V} {ds : List D} {H : Hp} (h1 : ∀ a ∈ dr.as, a ∈ O0) (h2 : ∀ a ∈ O0, ∃ o, H a = some o ∧ NT o) (h3 : DS ⟨K, mg⟩ dr wd O0 H) (h4 : RepAll ⟨K, mg⟩ dr.da (vis O0 H) vs ds) : SR ⟨K, mg⟩ ⟨dr, O0, H⟩ O0 (startE N.length ds) wd (L2.start N vs) H where
  len := by unfold startE L2.start; simp [h4.length]
  base := fun _ _ h _ => h
  new := fun a h n => absurd h n
  sub := fun _ h => h
  drs := h1
  trk := h2
  draw := h3
  val := fun i d h => by
    obtain ⟨v, q1, q2⟩ := h4.get (startE_val h)
    exact ⟨v, start_get q1, q2⟩
  own := fun i d h => (startE_own h).elim
  uni := fun i j d d' a h => (startE_own h).elim
theorem def_ok {x qual : Str} {st : Stmt} {f : Addr} {fd : FuncData} {N ps : List Str} {k : Nat} {fb : M Fl} (F : Fun K x qual st f fd) (S : FnScope N ps (defScope st))
    (hb : ∀ (cdv : Value) (A : Around) (outer : List PySem.Env) (s : Shared) (H : Hp) (E : XK), Room k (A.deeper (envOfC qual (defScope st) s.heap.objs.size f cdv)) → FSs (cxOf CX0 P w K mg base N qual (defScope st) f cdv A outer s H E).nox (defBody st) fb) :
    FnOk P w K mg base CX0 (k + 1) f fd ps (spD ⟨K, mg⟩ ps.length (denB N.length fb)) := by
  obtain ⟨oc, od, kV, doc, pm, an, cdv, ctt, osl, rfl, lk, hcd⟩ := F.ex
  refine fn_of lk hcd S (fun _ _ _ _ h => ?_) fun A outer s H vs Q E hr h => ?_
  · obtain ⟨dr, O0, wd, ds, r, w', _, _, _, h4, h5, _⟩ := h
    rw [h4.length, h5]
  · obtain ⟨dr, O0, wd, ds, r, w', h1, h2, h3, h4, h5, h6, k6⟩ := h
    refine ⟨_, PSs.nox (hb cdv A outer s H E hr ⟨dr, O0, H⟩), ?_⟩
    unfold denB at h6
    cases e : fb (startE N.length ds) wd with
    | none =>
      rw [e] at h6
      cases h6
    | some z =>
      obtain ⟨fl, ρ', w2⟩ := z
      rw [e] at h6
      refine ⟨O0, _, wd, fl, ρ', w2, start_sr h1 h2 h3 h4, e, ?_⟩
      cases fl with
      | nx =>
        cases h6
        intro σ O H' S' _
        exact k6 .non H' (fun a o q n => S'.base a o q n) (S'.draw.to (Ex.refl _) (vis_sub S'.sub)) .non
      | ret r1 =>
        intro v σ O H' S' R'
        have h6 : (outR ρ' r1).map (fun r' => (r', w2)) = some (r, w') := h6
        cases q : outR ρ' r1 with
        | none =>
          rw [q] at h6
          cases h6
        | some r2 =>
          rw [q] at h6
          cases h6
          exact k6 v H' (fun a o q n => S'.base a o q n) (outR_ds S' R' q) (outR_ok S' R' q)
      | bk => cases h6
      | ct => cases h6
theorem def_okE {x qual : Str} {st : Stmt} {f : Addr} {cd : Value} {fd : FuncData} {N ps : List Str} {k : Nat} {fb : M Fl} (F : Fun K x qual st f fd) (S : FnScope N ps (defScope st))
    (hcd : ∀ oc od kV doc pm an cdv ct osl, K.lookup f = some ⟨oc, od, .func (PySem.W.fnOf x qual (defArgs st) (defBody st) (defScope st) .none kV doc pm an cdv ct), osl⟩ → cdv = cd)
    (hb : ∀ (A : Around) (outer : List PySem.Env) (s : Shared) (H : Hp) (E : XK), Room k (A.deeper (envOfC qual (defScope st) s.heap.objs.size f cd)) → FSs (cxOf CX0 P w K mg base N qual (defScope st) f cd A outer s H E).nox (defBody st) fb) :
    FnOk P w K mg base CX0 (k + 1) f fd ps (spD ⟨K, mg⟩ ps.length (denB N.length fb)) := by
  obtain ⟨oc, od, kV, doc, pm, an, cdv, ctt, osl, rfl, lk, hcd'⟩ := F.ex
  obtain rfl := hcd _ _ _ _ _ _ _ _ _ lk
  refine fn_of lk hcd' S (fun _ _ _ _ h => ?_) fun A outer s H vs Q E hr h => ?_
  · obtain ⟨dr, O0, wd, ds, r, w', _, _, _, h4, h5, _⟩ := h
    rw [h4.length, h5]
  · obtain ⟨dr, O0, wd, ds, r, w', h1, h2, h3, h4, h5, h6, k6⟩ := h
    refine ⟨_, PSs.nox (hb A outer s H E hr ⟨dr, O0, H⟩), ?_⟩
    unfold denB at h6
    cases e : fb (startE N.length ds) wd with
    | none =>
      rw [e] at h6
      cases h6
    | some z =>
      obtain ⟨fl, ρ', w2⟩ := z
      rw [e] at h6
      refine ⟨O0, _, wd, fl, ρ', w2, start_sr h1 h2 h3 h4, e, ?_⟩
      cases fl with
      | nx =>
        cases h6
        intro σ O H' S' _
        exact k6 .non H' (fun a o q n => S'.base a o q n) (S'.draw.to (Ex.refl _) (vis_sub S'.sub)) .non
      | ret r1 =>
        intro v σ O H' S' R'
        have h6 : (outR ρ' r1).map (fun r' => (r', w2)) = some (r, w') := h6
        cases q : outR ρ' r1 with
        | none =>
          rw [q] at h6
          cases h6
        | some r2 =>
          rw [q] at h6
          cases h6
          exact k6 v H' (fun a o q n => S'.base a o q n) (outR_ds S' R' q) (outR_ok S' R' q)
      | bk => cases h6
      | ct => cases h6
end


/-! ### __init__ and C(..): the new object stands at a, hidden, of no slot; gs its attributes -/
def putD (f : Str) (d : D) : List (Str × D) → List (Str × D)
  | [] => [(f, d)]
  | (g, e) :: r => if g = f then (g, d) :: r else (g, e) :: putD f d r
theorem RepF.put {c : Ct} {da : DA} {G : Hp} {f : Str} {v : V} {d : D} (h : Rep c da G v d) : ∀ {fs : List (Str × V)} {gs : List (Str × D)}, RepF c da G fs gs → RepF c da G (putF f v fs) (putD f d gs)
  | _, _, .nil => .cons h .nil
  | _, _, .cons (k := k) q r => by
    unfold putF putD
    by_cases e : k = f
    · rw [if_pos e, if_pos e]
      exact .cons h r
    · rw [if_neg e, if_neg e]
      exact .cons q (RepF.put h r)
theorem RepF.length {c : Ct} {da : DA} {G : Hp} : ∀ {fs : List (Str × V)} {gs : List (Str × D)}, RepF c da G fs gs → fs.length = gs.length
  | _, _, .nil => rfl
  | _, _, .cons _ r => by simp [RepF.length r]
abbrev MJ := List (Str × D) → M (List (Str × D))
def NoSlot (ρ : Env) (σ : L2.St) (a : Addr) : Prop := ∀ (j : Nat) e, ρ[j]? = some (some (Slot.own e)) → σ[j]? ≠ some (some (V.ref a))
def tJ (c : Ct) (F : Fm) (a C : Addr) (f : MJ) : TS := fun E σ H => ∃ O ρ w gs gs' ρ' w', SR c F O ρ w σ H ∧ σ[0]? = some (some (V.ref a)) ∧ a ∈ O ∧ a ∉ F.O0 ∧ NoSlot ρ σ a ∧ (∃ dx fs, H a = some (.ins C dx fs) ∧ RepF c F.dr.da (vis O H) fs gs) ∧ f gs ρ w = some (gs', ρ', w') ∧
  ∀ O' H', SR c F O' ρ' w' σ H' → a ∈ O' → (∃ dx fs, H' a = some (.ins C dx fs) ∧ RepF c F.dr.da (vis O' H') fs gs') → E.nx σ H'
def FJ (X : Cx) (cn : Str) (sts : List Stmt) (f : MJ) : Prop := ∀ F a C, X.mg cn = some (.ref C) → PSs X sts (tJ (ct X) F a C f)
section
variable {X : Cx} {cn f x : Str} {e : Expr} {sts : List Stmt} {g : MJ} {fe : M RV} {pos pos' p : Pos}
theorem fj_nil : FJ X cn [] (fun gs => pureM gs) := fun F a C mc => PSs.wk pss_nil fun E σ H q => by
  obtain ⟨O, ρ, w, gs, gs', ρ', w', S, h0, hO, hF, nu, ob, e, k⟩ := q
  cases e
  exact k O H S hO ob
theorem hide_in {c : Ct} {F : Fm} {O : List Addr} {ρ : Env} {w : W} {σ : L2.St} {H : Hp} {a : Addr} {o : HO} (S : SR c F O ρ w σ H) (hO : a ∈ O) (hF : a ∉ F.O0) (nu : NoSlot ρ σ a) (q : H a = some o) : SR c (F.and a o) O ρ w σ H :=
  ((S.congr (O' := a :: O) fun b => ⟨fun z => List.mem_cons_of_mem _ z, fun z => (List.mem_cons.mp z).elim (fun y => y ▸ hO) id⟩).in hF nu q).congr fun b => ⟨fun z => (List.mem_cons.mp z).elim (fun y => y ▸ hO) id, fun z => List.mem_cons_of_mem _ z⟩
/-- an expression ahead of the rest -/
theorem fj_expr (he : FE X e fe) (hr : FJ X cn sts g) (hs : swapsWith e none pos.line X.env = pure false := by rfl) : FJ X cn (.Expr e pos :: sts) (fun gs => bindM fe fun _ => g gs) := fun F a C mc => PSs.wk (pss_cons (ps_expr he.any hs) (hr F a C mc)) fun E σ H q => by
  obtain ⟨O, ρ, w, gs, gs', ρ', w', S, h0, hO, hF, nu, ⟨dx, fs, ha, rf⟩, e, k⟩ := q
  refine ⟨F.and a (.ins C dx fs), tE_then (hide_in S hO hF nu ha) e fun v O1 ρ1 w1 H1 r1 S1 e1 R1 h1 => ?_⟩
  obtain ⟨S2, q2, m2, u2⟩ := S1.out hF (S.new a hO hF) S.drs
  exact ⟨O1, ρ1, w1, gs, gs', ρ', w', S2, h0, m2, hF, u2, ⟨dx, fs, q2, rf.mono e1⟩, h1, k⟩
/-- self.f = e ahead of the rest -/
theorem fj_fld (cl : FldD X.K X.mg cn f) (hv : PE X (.Name x p) (tVar 0)) (he : FE X e fe) (hr : FJ X cn sts g) (hs : swapsWith e (some (.Attribute (.Name x p) f pos')) pos.line X.env = pure false := by rfl) :
    FJ X cn (.Assign [.Attribute (.Name x p) f pos'] e pos :: sts) (fun gs => bindM fe fun r => bindM (escR r) fun d => if gs.length < 900 then g (putD f d gs) else failM) := fun F a C mc => PSs.wk (pss_cons (ps_fld hv he.any hs) (hr F a C mc)) fun E σ H q => by
  obtain ⟨O, ρ, w, gs, gs', ρ', w', S, h0, hO, hF, nu, ⟨dx, fs, ha, rf⟩, e, k⟩ := q
  obtain ⟨C', mc', cls, na⟩ := cl.ex
  have eC : C' = C := by
    rw [mc] at mc'
    cases mc'
    rfl
  subst eC
  refine ⟨F.and a (.ins C' dx fs), tE_then (hide_in S hO hF nu ha) e fun v O1 ρ1 w1 H1 r1 S1 e1 R1 h1 => ?_⟩
  obtain ⟨d, ρ2, w2, h2, h3⟩ := bindM_some h1
  obtain ⟨rfl, O2, S2, k2, r2⟩ := escR_ok S1 R1.hold h2
  obtain ⟨S3, q3, m3, u3⟩ := S2.out hF (S.new a hO hF) S.drs
  by_cases hl : gs.length < 900
  · rw [if_pos hl] at h3
    refine ⟨.ref a, h0, a, C', dx, fs, rfl, q3, cls, na, by rw [rf.length]; omega, ?_⟩
    have S4 := S3.poke q3 (fun _ z => nomatch z) m3 hF u3 (.ins C' dx (putF f v fs))
    refine ⟨O2, ρ2, _, putD f d gs, gs', ρ', w', S4, h0, m3, hF, u3, ⟨dx, _, upd_same, ?_⟩, h3, k⟩
    rw [vis_upd m3]
    exact (rf.mono (e1.trans k2)).put r2
  · rw [if_neg hl] at h3
    cases h3
end
def spI (c : Ct) (n : Nat) (cn : Str) (den : List D → W → Option (List (Str × D) × W)) : Sp := fun vs H Q _ => ∃ a C dx vs' dr O0 w ds gs w', vs = .ref a :: vs' ∧ c.mg cn = some (.ref C) ∧ H a = some (.ins C dx []) ∧ a ∉ O0 ∧ (∀ b ∈ dr.as, b ∈ O0) ∧ (∀ b ∈ O0, ∃ o, H b = some o ∧ NT o) ∧ DS c dr w (a :: O0) H ∧
  RepAll c dr.da (vis (a :: O0) H) vs' ds ∧ ds.length + 1 = n ∧ den ds w = some (gs, w') ∧
  ∀ H' dx' fs, (∀ b o, H b = some o → b ≠ a → b ∉ dr.as → H' b = some o) → DS c dr w' (a :: O0) H' → H' a = some (.ins C dx' fs) → RepF c dr.da (vis (a :: O0) H') fs gs → Q .non H'
def denI (n : Nat) (body : MJ) : List D → W → Option (List (Str × D) × W) := fun ds w => (body [] (none :: startE (n - 1) ds) w).map fun z => (z.1, z.2.2)
section
variable {P : Program} {w : World} {K : PySem.W.Frag} {mg : Str → Option Value} {base : Heap}
theorem init_sr {dr : Dr} {O0 : List Addr} {wd : W} {N : List Str} {vs : List V} {ds : List D} {H : Hp} {a C dx : Addr} (ha : H a = some (.ins C dx [])) (na : a ∉ O0) (h1 : ∀ b ∈ dr.as, b ∈ O0) (h2 : ∀ b ∈ O0, ∃ o, H b = some o ∧ NT o) (h3 : DS ⟨K, mg⟩ dr wd (a :: O0) H) (h4 : RepAll ⟨K, mg⟩ dr.da (vis (a :: O0) H) vs ds) :
    SR ⟨K, mg⟩ ⟨dr, O0, fun b => if b = a then none else H b⟩ (a :: O0) (none :: startE (N.length - 1) ds) wd (L2.start N (.ref a :: vs)) H ∧ (L2.start N (.ref a :: vs))[0]? = some (some (V.ref a)) := by
  have es : L2.start N (.ref a :: vs) = some (.ref a) :: (vs.map some ++ List.replicate (N.length - 1 - vs.length) none) := by
    unfold L2.start
    rw [List.map_cons, List.cons_append, List.length_cons, Nat.sub_sub, Nat.add_comm]
  have gs : ∀ {i : Nat} {v : V}, vs[i]? = some v → (vs.map some ++ List.replicate (N.length - 1 - vs.length) none)[i]? = some (some v) := fun {i v} h => by
    rw [List.getElem?_append_left (by rw [List.length_map]; exact (List.getElem?_eq_some_iff.mp h).1), List.getElem?_map, h]
    rfl
  refine ⟨⟨?_, fun b o h n => ?_, fun b h n => ?_, fun b h => List.mem_cons_of_mem _ h, h1, fun b h => ?_, h3, fun i d h => ?_, fun i d h => ?_, fun i j d d' b h h' q q' => ?_⟩, by rw [es]; rfl⟩
  · rw [es]
    unfold startE
    simp [h4.length]
  · have h : (if b = a then none else H b) = some o := h
    split at h
    · cases h
    · exact h
  · rcases List.mem_cons.mp h with z | z
    · exact if_pos z
    · exact absurd z n
  · rcases List.mem_cons.mp h with z | z
    · rw [z]
      exact ⟨_, ha, fun _ z => nomatch z⟩
    · exact h2 b z
  · rw [es]
    cases i with
    | zero => cases h
    | succ i =>
      obtain ⟨v, q1, q2⟩ := h4.get (startE_val (by simpa using h))
      exact ⟨v, by simpa using gs q1, q2⟩
  · cases i with
    | zero => cases h
    | succ i => exact (startE_own (by simpa using h)).elim
  · cases i with
    | zero => cases h
    | succ i => exact (startE_own (by simpa using h)).elim
theorem init_ok {cn qual : Str} {params : Arguments} {body : List Stmt} {scope : Scope} {dvs : List V} {kws : List (Str × V)} {f : Addr} {fd : FuncData} {N ps : List Str} {k : Nat} {fb : MJ} (F : FunD K "__init__" qual params body scope dvs kws f fd) (S : FnScope N ps scope)
    (hb : ∀ (cdv : Value) (A : Around) (outer : List PySem.Env) (s : Shared) (H : Hp) (E : XK), Room k (A.deeper (envOfC qual scope s.heap.objs.size f cdv)) → FJ (cxOf CX0 P w K mg base N qual scope f cdv A outer s H E).nox cn body fb) :
    FnOk P w K mg base CX0 (k + 1) f fd ps (spI ⟨K, mg⟩ ps.length cn (denI N.length fb)) := by
  obtain ⟨oc, od, dV, kV, doc, pm, an, cdv, ctt, osl, rfl, lk, hcd, _, _⟩ := F.ex
  refine fn_of lk hcd S (fun _ _ _ _ h => ?_) fun A outer s H vs Q E hr h => ?_
  · obtain ⟨a, C, dx, vs', dr, O0, wd, ds, gs, w', rfl, mc, ha, na, _, _, _, h4, h5, _⟩ := h
    rw [List.length_cons, h4.length, h5]
  · obtain ⟨a, C, dx, vs', dr, O0, wd, ds, gs, w', rfl, mc, ha, na, h1, h2, h3, h4, h5, h6, k6⟩ := h
    refine ⟨_, PSs.nox (hb cdv A outer s H E hr ⟨dr, O0, fun b => if b = a then none else H b⟩ a C mc), ?_⟩
    unfold denI at h6
    cases e : fb [] (none :: startE (N.length - 1) ds) wd with
    | none =>
      rw [e] at h6
      cases h6
    | some z =>
      obtain ⟨gs', ρ', w2⟩ := z
      rw [e] at h6
      cases h6
      obtain ⟨S0, s0⟩ := init_sr (N := N) ha na h1 h2 h3 h4
      refine ⟨a :: O0, _, wd, [], gs', ρ', w2, S0, s0, List.mem_cons_self, na, fun j e q => ?_, ⟨dx, [], ha, .nil⟩, e, fun O' H' S' mO ob => ?_⟩
      · cases j with
        | zero => cases q
        | succ j => exact (startE_own (by simpa using q)).elim
      · obtain ⟨dx', fs, ha', rf⟩ := ob
        refine k6 H' dx' fs (fun b o q n nd => S'.base b o (by show (if b = a then none else H b) = some o; rw [if_neg n]; exact q) nd) (S'.draw.to (Ex.refl _) (vis_sub fun b z => (List.mem_cons.mp z).elim (fun z => z ▸ mO) fun z => S'.sub b z)) ha' ?_
        refine rf.mono fun b o q => ?_
        obtain ⟨nb, q⟩ := vis_some q
        have hb : b ≠ a := fun z => nb (z ▸ mO)
        rw [vis_out fun z => ?_]
        · exact q
        · rcases List.mem_cons.mp z with z | z
          · exact hb z
          · exact nb (S'.sub b z)
end
end FD

end sec_FD7
section sec_ST1
set_option maxRecDepth 100000
set_option maxHeartbeats 5000000
/-! ST1: set(text). The library adds a text that is new to a set (Froz.add_x); here also one that is there, and the walk over a text's signs. -/
namespace ST
open PySem PySem.Spec PyProof.Rows L2
open PySem.Froz (SD sObj TxOk addTx tailTx add_x add_ok)
def nameOf : Value → Str
  | .str k _ => k
  | _ => Str.empty
def names (l : List (Int × Value)) : List Str := l.map fun e => nameOf e.2
/-- the payload D of a set holds the texts l, each once, and can be walked -/
structure Holds (P : Program) (w : World) (D : SD) (l : List Str) : Prop where
  tx : TxOk P w D l
  str : ∀ e ∈ D.1.toList, ∃ k u, e.2 = Value.str k u
  perm : (names D.1.toList).Perm l
  ris : Ris D.2.2.place.toList
  led : w.params.followText "set-order" = true ∨ D.2.2.led = true
section
variable {P : Program} {w : World} {D : SD} {l : List Str} {k : Str} {u : Tok}
theorem Holds.relaid {es : Array (Int × Value)} {ep ep2 n : Nat} {t : SetTable} (h : Holds P w (es, ep, t) l) (tx : TxOk P w ((relayAll t es n).1, ep2, (relayAll t es n).2.1) l) : Holds P w ((relayAll t es n).1, ep2, (relayAll t es n).2.1) l := by
  have pm := relayAll_perm t es n
  refine ⟨tx, fun e he => h.str e (pm.mem_iff.mp he), (pm.map _).trans h.perm, relayAll_ris t es n, ?_⟩
  rcases h.led with z | z
  · exact Or.inl z
  · exact Or.inr ((relayAll_led t es n).trans z)
theorem Holds.laid {es : Array (Int × Value)} {ep : Nat} {t t2 : SetTable} {i : Int} (h : Holds P w (es, ep, t) l) (ep2 : Nat) (same : t2.place = (layNew t es i (.str k u)).2.1.place ∧ t2.led = (layNew t es i (.str k u)).2.1.led) (tx : TxOk P w ((layNew t es i (.str k u)).1, ep2, t2) (k :: l)) :
    Holds P w ((layNew t es i (.str k u)).1, ep2, t2) (k :: l) := by
  have pm := layNew_perm t es i (.str k u)
  rw [Array.toList_push] at pm
  have pc := pm.trans (List.perm_append_singleton _ _)
  refine ⟨tx, fun e he => ?_, (pc.map _).trans (h.perm.cons k), ?_, ?_⟩
  · rcases List.mem_cons.mp (pc.mem_iff.mp he) with rfl | old
    · exact ⟨k, u, rfl⟩
    · exact h.str e old
  · rw [same.1]
    exact layNew_ris t es i _ h.ris
  · rw [same.2, layNew_led]
    exact h.led
theorem Holds.add (h : Holds P w D l) (u : Tok) : Holds P w (addTx (hashStr w k) (.str k u) D) (k :: l) := by
  have tx := add_ok (k := k) u h.tx
  obtain ⟨es, ep, t⟩ := D
  unfold addTx tailTx at tx ⊢
  have keep : ∀ T : SetTable, (if T.plain = true then { T with plain := false } else T).place = T.place ∧ (if T.plain = true then { T with plain := false } else T).led = T.led := fun T => by
    by_cases q : T.plain = true <;> simp [q]
  dsimp only at tx ⊢
  generalize ht : (if (layNew t es (hashStr w k) (.str k u)).2.1.plain = true then { (layNew t es (hashStr w k) (.str k u)).2.1 with plain := false } else (layNew t es (hashStr w k) (.str k u)).2.1) = t2 at tx ⊢
  have same : t2.place = (layNew t es (hashStr w k) (.str k u)).2.1.place ∧ t2.led = (layNew t es (hashStr w k) (.str k u)).2.1.led := by
    rw [← ht]
    exact keep _
  by_cases full : (!(layNew t es (hashStr w k) (.str k u)).2.2.1 && t2.tooFull) = true
  · rw [if_pos full] at tx ⊢
    have txl : TxOk P w ((layNew t es (hashStr w k) (.str k u)).1, ep, t2) (k :: l) := by
      refine ⟨?_, ?_, ?_, ?_⟩
      · exact tx.el.perm (relayAll_perm _ _ _).symm
      · intro j
        rw [tx.mem j]
        constructor
        · rintro ⟨e, he, z⟩
          exact ⟨e, (relayAll_perm _ _ _).mem_iff.mp he, z⟩
        · rintro ⟨e, he, z⟩
          exact ⟨e, (relayAll_perm _ _ _).mem_iff.mpr he, z⟩
      · rw [← tx.sz]
        have := (relayAll_perm t2 (layNew t es (hashStr w k) (.str k u)).1 (SetTable.grown (layNew t es (hashStr w k) (.str k u)).1.size)).length_eq
        simpa using this.symm
      · have f := layNew_fits t es (hashStr w k) (.str k u)
        rw [← ht]
        by_cases q : (layNew t es (hashStr w k) (.str k u)).2.1.plain = true
        · rw [if_pos q]
          exact SetTable.fits_plain_off f
        · rw [if_neg q]
          exact f
    exact (h.laid ep same txl).relaid tx
  · rw [if_neg full] at tx ⊢
    exact h.laid _ same tx
theorem Holds.empty {b : Bool} (hb : w.params.followText "set-order" = true ∨ b = true) : Holds P w (#[], 0, .fresh 0 0 b) [] := by
  refine ⟨.nil rfl, ?_, .nil, .nil, hb⟩
  intro e he
  cases he
/-! ### adding -/
variable {A : Around} {E : Value → Shared → Prop} {s : Shared} {a : Addr}
/-- one that is there already -/
theorem add_old {Q : Bool → Shared → Prop} (ho : s.heap.get? a = some (sObj "set" D)) (h : TxOk P w D l) (mem : k ∈ l) (small : l.length < scanBound) (q : Q false s) : wpAny (model P w) A (setAddHashed a (.str k u) (hashStr w k)) Q E s := by
  obtain ⟨es, ep, t⟩ := D
  have isk := PySem.Froz.is_str (P := P) (w := w) k u
  have few : es.size < scanBound := by
    rw [show es.size = l.length from h.sz]
    exact small
  unfold setAddHashed setAddHashedIn
  apply wpAny_holding
  apply wpAny_bind
  apply wpAny_setState_of ho rfl h.fit
  have scan : byScan (Value.str k u) es = true := byScan_of rfl few h.el
  simp only [scan, if_true]
  unfold setAddByScan
  apply wpAny_bind
  apply wpAny_bind
  apply wpAny_rule
  apply wpAny_bind
  apply wpAny_setScan_of (knd := strKind P w) isk ho rfl h.fit h.el
  cases found : es.toList.findIdx? (fun e => (strKind P w).is k e.2) with
  | some j => exact wpAny_pure (wpAny_pure q)
  | none =>
    obtain ⟨e, he, z⟩ := (h.mem k).mp mem
    have no := List.findIdx?_eq_none_iff.mp found e he
    rw [z] at no
    cases no
/-- l with k in it -/
def ins (k : Str) (l : List Str) : List Str := if k ∈ l then l else k :: l
theorem mem_ins {j k : Str} {l : List Str} : j ∈ ins k l ↔ j = k ∨ j ∈ l := by
  unfold ins
  split
  · rename_i z
    constructor
    · exact Or.inr
    · rintro (rfl | y)
      · exact z
      · exact y
  · exact List.mem_cons
theorem nodup_ins {k : Str} {l : List Str} (h : l.Nodup) : (ins k l).Nodup := by
  unfold ins
  split
  · exact h
  · rename_i z
    exact List.nodup_cons.mpr ⟨z, h⟩
theorem length_ins (k : Str) (l : List Str) : (ins k l).length ≤ l.length + 1 := by
  unfold ins
  split <;> simp
/-- a holds l in the heap h -/
def SetS (P : Program) (w : World) (h : Heap) (a : Addr) (l : List Str) : Prop := ∃ D, h.get? a = some (sObj "set" D) ∧ Holds P w D l
theorem add_any {Q : Bool → Shared → Prop} (R : SetS P w s.heap a l) (small : l.length + 1 < scanBound) (q : ∀ b h, Heap.SameBut a s.heap h → SetS P w h a (ins k l) → Q b { s with heap := h }) :
    wpAny (model P w) A (setAddHashed a (.str k u) (hashStr w k)) Q E s := by
  obtain ⟨D, ho, hD⟩ := R
  by_cases mem : k ∈ l
  · exact add_old ho hD.tx mem (Nat.lt_of_succ_lt small) (q false s.heap (Heap.SameBut.refl a _) ⟨D, ho, by rw [ins, if_pos mem]; exact hD⟩)
  · apply add_x ho hD.tx mem small
    exact q true _ (Heap.SameBut.update _ a _) ⟨_, PySem.Froz.get_upd _ ho rfl, by rw [ins, if_neg mem]; exact hD.add u⟩
end
/-! ### a text's signs, one after another -/
def sgs (x : Str) : List Str := x.cps.toList.map fun c => ⟨#[c]⟩
def insAll (l : List Str) : List Str → List Str := List.foldl (fun m k => ins k m) l
theorem mem_insAll {j : Str} : ∀ {ks l : List Str}, j ∈ insAll l ks ↔ j ∈ ks ∨ j ∈ l
  | [], l => by simp [insAll]
  | k :: ks, l => by
    show j ∈ insAll (ins k l) ks ↔ _
    rw [mem_insAll, mem_ins, List.mem_cons, or_left_comm, or_assoc]
theorem nodup_insAll : ∀ {ks l : List Str}, l.Nodup → (insAll l ks).Nodup
  | [], _, h => h
  | k :: ks, l, h => nodup_insAll (ks := ks) (l := ins k l) (nodup_ins h)
theorem length_insAll : ∀ (ks l : List Str), (insAll l ks).length ≤ l.length + ks.length
  | [], l => Nat.le_refl _
  | k :: ks, l => by
    have h1 := length_insAll ks (ins k l)
    have h2 := length_ins k l
    show (insAll (ins k l) ks).length ≤ _
    rw [List.length_cons]
    omega
section
variable {P : Program} {w : World} {A : Around} {R : Result → Shared → Prop} {I a : Addr} {fp wr : List Addr} {G : Array GenState → Array GenState → Prop} {n : Nat} {Pv : Nat → Value → Prop} {St : Nat → Shared → Prop}
theorem loop (W : WalksS P w A.in1 I fp wr G n Pv St) (far : a ∉ fp) (xs : List Str) (len : xs.length = n) (small : n + 1 < scanBound) (val : ∀ i v, Pv i v → ∃ k u, xs[i]? = some k ∧ v = .str k u) (left : Nat) :
    ∀ (i : Nat) (s : Shared) (l : List Str), i + left = n → l.length ≤ i → St i s → SetS P w s.heap a l → (∀ s2, Moved (a :: wr) G s s2 → SetS P w s2.heap a (insAll l (xs.drop i)) → R (.ok (.ret .none)) s2) →
      codeAny (model P w) A (.builtin "set.update.loop" ⟨[.ref a, .ref I], []⟩) R s := by
  have nw : a ∉ wr := fun z => far (W.sub _ z)
  have step : ∀ {s s2 : Shared} {l : List Str}, Moved wr G s s2 → SetS P w s.heap a l → SetS P w s2.heap a l := fun m ⟨D, ho, hD⟩ => ⟨D, m.heap a _ nw ho, hD⟩
  have wide : ∀ b, b ∈ wr → b ∈ a :: wr := fun _ => List.mem_cons_of_mem _
  induction left with
  | zero =>
    intro i s l hi hl st S fin
    obtain rfl : i = n := hi
    apply codeAny_builtin PyProof.Rows.F.entry_set_update_loop
    rw [Around.under_plainId PyProof.Rows.F.plain_set_update_loop]
    apply wpAny_bind
    apply W.done s _ _ st
    intro s2 m
    apply wpAny_pure
    apply fin s2 (m.mono wide)
    rw [← len, List.drop_length]
    exact step m S
  | succ left ih =>
    intro i s l hi hl st S fin
    apply codeAny_builtin PyProof.Rows.F.entry_set_update_loop
    rw [Around.under_plainId PyProof.Rows.F.plain_set_update_loop]
    apply wpAny_bind
    apply W.item i s _ _ (by omega) st
    intro v s2 pv st2 m
    obtain ⟨k, u, at_, rfl⟩ := val i v pv
    show wpAny _ A.in1 (holding [Value.str k u] (setAdd a (.str k u)) >>= _) _ _ s2
    apply wpAny_bind
    apply wpAny_holding
    unfold setAdd
    apply wpAny_holding
    apply wpAny_bind
    apply (PySem.strKind P w).pyHash (PySem.Froz.is_str k u)
    have S1 := step m S
    apply add_any (s := { s2 with toks := s2.toks + 1 }) S1 (by omega)
    intro b h sb S2
    have old : ∀ c ∈ fp, ∀ o, s2.heap.get? c = some o → h.get? c = some o := fun c hc o e => (sb.2 c fun z => far (z ▸ hc)).trans e
    refine wpAny_pure ⟨plainId_quiet PyProof.Rows.F.plain_set_update_loop _, ih (i + 1) _ (ins k l) (by omega) ?_ (W.frame _ s2 _ _ st2 (Nat.le_succ _) old) S2 ?_⟩
    · have := length_ins k l
      omega
    · intro s3 m3 S3
      refine fin s3 (Moved.trans W.gtrans ((m.mono wide).then_heap (Nat.le_succ _) fun c o hc e => ?_) m3) ?_
      · exact (sb.2 c fun z => hc (z ▸ List.mem_cons_self)).trans e
      · have : xs.drop i = k :: xs.drop (i + 1) := by
          obtain ⟨lt, e⟩ := List.getElem?_eq_some_iff.mp at_
          rw [List.drop_eq_getElem_cons lt, e]
        rw [this]
        exact S3
end
/-! ### set(text) -/
section
variable {P : Program} {w : World} {A : Around} {E : Value → Shared → Prop} {s : Shared}
abbrev newSet (w : World) : Obj := { cls := .type "set", dict := none, data := .set #[] 0 (.fresh 0 0 (!w.params.followText "set-order")) }
theorem newSet_ok {h : Heap} {a : Addr} (e : h.get? a = some (newSet w)) : SetS P w h a [] := by
  refine ⟨(#[], 0, .fresh 0 0 (!w.params.followText "set-order")), e, .empty ?_⟩
  cases w.params.followText "set-order"
  · exact Or.inr rfl
  · exact Or.inl rfl
/-- what set(x) leaves: a set at the first free place, all else as it was -/
def Left (P : Program) (w : World) (x : Str) (s s2 : Shared) : Prop := ∃ h k, s2 = { s with heap := h, toks := k } ∧ SetS P w h s.heap.objs.size (insAll [] (sgs x)) ∧ ∀ b o, s.heap.get? b = some o → h.get? b = some o
theorem init_text {x : Str} {u : Tok} {Q : PySem.Fin → Shared → Prop} (calm : A.handled = none) (small : x.cps.size + 1 < scanBound) (go : ∀ s2, Left P w x s s2 → Q (.done (.ret .none)) s2) :
    wpAny (model P w) A (Builtin.«set.__init__» ⟨[.ref s.heap.objs.size, .str x u], []⟩) Q E { s with heap := s.heap.push (newSet w) } := by
  have sub1 := PySem.F.sub_str_set
  have sub2 := PySem.F.sub_str_frozenset
  have nd : (Value.type "str" == Value.type "dict") = false := by decide
  have top : (s.heap.push (newSet w)).get? s.heap.objs.size = some (newSet w) := Heap.get?_push_size _ rfl
  unfold Builtin.«set.__init__» noKeywords Builtin.Frozenset.updateFrom
  generalize hPI : pyIter = PI
  wp_walk
  subst hPI
  apply wpAny_pyIter_str
  intro o St walk st
  apply wpAny_bind
  apply wpAny_runValue
  have one : (s.heap.push (newSet w)).objs.size = s.heap.objs.size + 1 := Heap.size_push ..
  have far : s.heap.objs.size ∉ [(s.heap.push (newSet w)).objs.size] := by simp [one]
  apply loop ((walk _ (by simp [calm])).toS) far (sgs x) (by simp [sgs]) small ?val x.cps.size 0 _ [] (Nat.zero_add _) (Nat.le_refl _) st (newSet_ok (Heap.get?_push_of_some _ top)) ?fin
  case val =>
    rintro i v ⟨c, t, at_, rfl⟩
    exact ⟨⟨#[c]⟩, t, by simp [sgs, at_], rfl⟩
  case fin =>
    rintro ⟨h, g, d, k, os⟩ m S
    obtain rfl : g = s.gens := m.gens
    obtain rfl : d = s.drawn := m.drawn
    obtain rfl : os = s.os := m.os
    refine wpAny_pure (wpAny_pure (go _ ⟨h, k, rfl, S, fun b o e => ?_⟩))
    have lt := Heap.lt_size e
    apply m.heap b o _ (Heap.get?_push_of_some _ (Heap.get?_push_of_some _ e))
    rw [List.mem_cons, List.mem_singleton, one]
    have lt : b < s.heap.objs.size := lt
    rintro (z | z)
    · exact absurd lt (z ▸ Nat.lt_irrefl _)
    · exact absurd lt (z ▸ Nat.not_lt_of_le (Nat.le_succ _))
theorem call_set_text {x : Str} {u : Tok} {Q : Value → Shared → Prop} (calm : A.handled = none) (small : x.cps.size + 1 < scanBound) (go : ∀ s2, Left P w x s s2 → Q (.ref s.heap.objs.size) s2) :
    wpAny (model P w) A (call (.type "set") [.str x u]) Q E s := by
  have T := PySem.F.called_set
  obtain ⟨c, tl, hmro⟩ := T.mro
  have t1 := T.made
  have t2 := T.sub
  have t3 := T.notType
  have t4 := T.canCreate
  have t5 := PySem.F.typeCall_set_1 (.str x u)
  apply wpAny_call
  apply codeAny_of_tree
  have quiet := Code.quiet_builtin (id := "type.__call__") ⟨[.type "set", .str x u], []⟩ (by decide +kernel)
  refine wpAny_pure ⟨quiet, ?_⟩
  apply codeAny_builtin PySem.F.entry_type_call
  rw [Around.under_plain (weight_type_call_type "set" [.str x u] []) rfl]
  repeat (any_goals (first | assumption | wp_step))
  apply codeAny_mono (code_set_led1 (.str x u) (E := E) (Q₁ := fun v s1 => v = .ref s.heap.objs.size ∧ s1 = { s with heap := s.heap.push (newSet w) }) ⟨rfl, rfl⟩)
  intro r s1 made
  match r, made with
  | .error e, z => exact z
  | .ok .next, z => exact absurd z id
  | .ok .brk, z => exact absurd z id
  | .ok .cont, z => exact absurd z id
  | .ok (.ret v), ⟨e1, e2⟩ =>
    subst e1 e2
    have isSet : Shared.TypeIs { s with heap := s.heap.push (newSet w) } (.ref s.heap.objs.size) "set" := ⟨newSet w, Heap.get?_push_size _ rfl, rfl⟩
    have i1 := T.init.lookup
    have i2 := T.init.bind (.ref s.heap.objs.size)
    repeat (any_goals (first | assumption | wp_step))
    apply codeAny_mono (codeAny_call_builtin (R := wants (fun v s2 => v = .none ∧ Left P w x s s2) E) T.init.plain PySem.F.entry_set_init (check_set_init_1 isSet (init_text (by simp [calm]) small fun s2 z => ⟨rfl, z⟩)))
    intro r2 s2 done
    match r2, done with
    | .error e, z => exact z
    | .ok .next, z => exact absurd z id
    | .ok .brk, z => exact absurd z id
    | .ok .cont, z => exact absurd z id
    | .ok (.ret v), ⟨e1, z⟩ =>
      subst e1
      repeat (any_goals (first | assumption | wp_step))
      exact go s2 z
end
end ST

end sec_ST1
section sec_ST2
set_option maxRecDepth 100000
set_option maxHeartbeats 5000000
namespace ST
open PySem PySem.Spec PyProof.Rows L2

/-! ### the signs of a text, each once, ascending -/
def insN (c : Nat) : List Nat → List Nat
  | [] => [c]
  | d :: r => if c < d then c :: d :: r else if c = d then d :: r else d :: insN c r
def setN : List Nat → List Nat
  | [] => []
  | c :: r => insN c (setN r)
abbrev Up (l : List Nat) : Prop := l.Pairwise (· < ·)
theorem mem_insN {c x : Nat} : ∀ {l : List Nat}, x ∈ insN c l ↔ x = c ∨ x ∈ l
  | [] => by simp [insN]
  | d :: r => by
    unfold insN
    split
    · simp
    · split
      · rename_i h
        subst h
        simp
      · rw [List.mem_cons, mem_insN, List.mem_cons]
        constructor
        · rintro (h | h | h) <;> simp [h]
        · rintro (h | h | h) <;> simp [h]
theorem up_insN {c : Nat} : ∀ {l : List Nat}, Up l → Up (insN c l)
  | [], _ => by simp [insN]
  | d :: r, h => by
    obtain ⟨above, up⟩ := List.pairwise_cons.mp h
    unfold insN
    split
    · rename_i hc
      refine List.pairwise_cons.mpr ⟨fun x hx => ?_, h⟩
      rcases List.mem_cons.mp hx with rfl | hx
      · exact hc
      · exact Nat.lt_trans hc (above x hx)
    · split
      · exact h
      · refine List.pairwise_cons.mpr ⟨fun x hx => ?_, up_insN up⟩
        rcases mem_insN.mp hx with rfl | hx
        · omega
        · exact above x hx
theorem mem_setN {x : Nat} : ∀ {l : List Nat}, x ∈ setN l ↔ x ∈ l
  | [] => Iff.rfl
  | c :: r => by
    show x ∈ insN c (setN r) ↔ _
    rw [mem_insN, mem_setN, List.mem_cons]
theorem up_setN : ∀ l : List Nat, Up (setN l)
  | [] => List.Pairwise.nil
  | c :: r => up_insN (up_setN r)
theorem up_eq : ∀ {l m : List Nat}, Up l → Up m → (∀ x, x ∈ l ↔ x ∈ m) → l = m
  | [], [], _, _, _ => rfl
  | [], y :: m, _, _, h => by
    have := (h y).mpr List.mem_cons_self
    cases this
  | x :: l, [], _, _, h => by
    have := (h x).mp List.mem_cons_self
    cases this
  | x :: l, y :: m, hl, hm, h => by
    obtain ⟨l1, l2⟩ := List.pairwise_cons.mp hl
    obtain ⟨m1, m2⟩ := List.pairwise_cons.mp hm
    have e : x = y := by
      rcases List.mem_cons.mp ((h x).mp List.mem_cons_self) with z | z
      · exact z
      · rcases List.mem_cons.mp ((h y).mpr List.mem_cons_self) with z' | z'
        · exact z'.symm
        · have a := m1 x z
          have b := l1 y z'
          omega
    subst e
    rw [up_eq l2 m2 fun z => ?_]
    constructor
    · intro hz
      rcases List.mem_cons.mp ((h z).mp (List.mem_cons_of_mem _ hz)) with q | q
      · have := l1 z hz
        omega
      · exact q
    · intro hz
      rcases List.mem_cons.mp ((h z).mpr (List.mem_cons_of_mem _ hz)) with q | q
      · have := m1 z hz
        omega
      · exact q
def sg1 (c : Nat) : Str := ⟨#[c]⟩
theorem sg1_inj {a b : Nat} (h : sg1 a = sg1 b) : a = b := by
  have q : [a] = [b] := congrArg (fun y : Str => y.cps.toList) h
  exact (List.cons.inj q).1
theorem sgs_eq (x : Str) : sgs x = x.cps.toList.map sg1 := rfl
/-- the texts of sorted(set(x)) -/
def sset (x : Str) : List Str := (setN x.cps.toList).map sg1
theorem sorted_pw : ∀ {ns : List Nat}, sortedS (ns.map sg1) = true → ns.Nodup → Up ns
  | [], _, _ => List.Pairwise.nil
  | [a], _, _ => by simp
  | a :: b :: r, h, nd => by
    have h' : (!ltCps (sg1 b).cps.toList (sg1 a).cps.toList && risingS (sg1 b) (r.map sg1)) = true := h
    rw [Bool.and_eq_true] at h'
    have nd' := List.nodup_cons.mp nd
    have ih := sorted_pw (ns := b :: r) h'.2 nd'.2
    have hab : a < b := by
      have q : a ≠ b := fun z => nd'.1 (by rw [z]; exact List.mem_cons_self)
      have q2 := h'.1
      simp [sg1, ltCps] at q2
      omega
    refine List.pairwise_cons.mpr ⟨fun x hx => ?_, ih⟩
    rcases List.mem_cons.mp hx with rfl | hx
    · exact hab
    · exact Nat.lt_trans hab ((List.pairwise_cons.mp ih).1 x hx)
theorem sset_of {x : Str} {ys : List Str} (hs : sortedS ys = true) (nd : ys.Nodup) (hm : ∀ k, k ∈ ys ↔ k ∈ sgs x) : ys = sset x := by
  obtain ⟨ns, rfl⟩ : ∃ ns : List Nat, ys = ns.map sg1 := by
    have : ∀ zs : List Str, (∀ k ∈ zs, k ∈ sgs x) → ∃ ns : List Nat, zs = ns.map sg1 := by
      intro zs
      induction zs with
      | nil => exact fun _ => ⟨[], rfl⟩
      | cons z zs ih =>
        intro h
        obtain ⟨ns, e⟩ := ih fun k hk => h k (List.mem_cons_of_mem _ hk)
        obtain ⟨c, _, e2⟩ := List.mem_map.mp (h z List.mem_cons_self)
        exact ⟨c :: ns, by rw [List.map_cons, e, ← e2]; rfl⟩
    exact this ys fun k hk => (hm k).mp hk
  have nd' : ns.Nodup := by
    refine List.Pairwise.of_map sg1 (fun a b hne e => hne (congrArg sg1 e)) nd
  unfold sset
  rw [up_eq (sorted_pw hs nd') (up_setN x.cps.toList) fun c => ?_]
  rw [mem_setN]
  have q := hm (sg1 c)
  rw [sgs_eq, List.mem_map, List.mem_map] at q
  constructor
  · intro h
    obtain ⟨a, ha, e⟩ := q.mp ⟨c, h, rfl⟩
    rw [← sg1_inj e]
    exact ha
  · intro h
    obtain ⟨a, ha, e⟩ := q.mpr ⟨c, h, rfl⟩
    rw [← sg1_inj e]
    exact ha

/-! ### sorted(a set of texts) -/
section
variable {P : Program} {w : World} {A : Around} {E : Value → Shared → Prop} {s : Shared} {a : Addr}
theorem strs_of : ∀ (vs : List Value), (∀ v ∈ vs, ∃ k u, v = Value.str k u) → StrsAre vs (vs.map nameOf)
  | [], _ => .nil
  | v :: vs, h => by
    have rest := strs_of vs fun z hz => h z (List.mem_cons_of_mem _ hz)
    obtain ⟨k, u, e⟩ := h v (List.mem_cons_self ..)
    subst e
    exact .cons k u rest
/-- what sorted leaves: a new list of the texts ys -/
structure Sorted (s s2 : Shared) (p : Addr) (ys : List Str) : Prop where
  old : ∀ b o, s.heap.get? b = some o → s2.heap.get? b = some o
  gens : s2.gens = s.gens
  os : s2.os = s.os
  new : s.heap.objs.size ≤ p
  lst : ∃ (out : Array Value) (c : Nat), s2.heap.get? p = some (seqObj "list" out c) ∧ StrsAre out.toList ys
  up : sortedS ys = true
theorem sorted_set {l : List Str} {Q : Value → Shared → Prop} (R : SetS P w s.heap a l) (small : l.length < scanBound) (calm : A.handled = none) (go : ∀ s2 p ys, Sorted s s2 p ys → ys.Perm l → Q (.ref p) s2) :
    wpAny (model P w) A (call (.builtin "sorted") [.ref a]) Q E s := by
  obtain ⟨⟨es, ep, t⟩, ho, hD⟩ := R
  have n : es.size = l.length := hD.tx.sz
  have line : l.length ≤ sizeLine := by
    rw [sizeLine_eq]
    unfold scanBound at small
    omega
  apply Calls.call_function_entry kind_sorted plain_sorted entry_sorted (args_sorted1 _)
  unfold Builtin.«sorted»
  apply wpAny_bind (m := checkCount "sorted" 1 1 _)
  apply wpAny_pure
  apply wpAny_bind
  apply collect_set (A := A.in1) calm (es := es) (ep := ep) (t := t) ⟨_, ho, rfl, rfl⟩ hD.tx.fit (by rw [n]; exact small) hD.ris hD.led
  intro s1 vs kept more gens os pm
  have vl : vs.length = l.length := by
    rw [← n, pm.length_eq]
    simp
  have isS := strs_of vs fun v hv => by
    obtain ⟨e, he, rfl⟩ := List.mem_map.mp (pm.mem_iff.mp hv)
    exact hD.str e he
  have vp : (vs.map nameOf).Perm l := by
    have z := pm.map nameOf
    rw [List.map_map] at z
    exact z.trans hD.perm
  apply wpAny_bind
  refine wpAny_newList ?_ (by rw [vl]; exact line)
  have top : (s1.heap.push (seqObj "list" vs.toArray 0)).get? s1.heap.objs.size = some (seqObj "list" vs.toArray 0) := Heap.get?_push_size _ (by rfl)
  apply wpAny_bind
  apply wpAny_holding
  refine wpAny_call_entry slot_list_sort ⟨_, top, rfl⟩ entry_list_sort ?_ (args_list_sort _)
  refine list_sort_treeKAny strKind_oneLt top isS.keysOf (fun v1 v2 rest e => keyKind_strs (by rw [← e]; exact isS)) (by rw [vl]; exact line) fun st hp hs => ⟨_, rfl, ?_⟩
  obtain ⟨ys, y1, y2, y3⟩ := sorted_out_str isS hp hs
  obtain ⟨c, at_⟩ := sortedHeap_at (vs := vs) (out := (arrOf st).map (·.2)) top
  refine wpAny_pure ⟨_, rfl, go _ s1.heap.objs.size ys ⟨fun b u e => ?_, gens, os, more, ⟨_, c, at_, y1⟩, y3⟩ (y2.trans vp)⟩
  have e1 := kept b u e
  have lt := Heap.lt_size e1
  refine (sortedHeap_old (Nat.ne_of_lt lt) ?_).trans (Heap.get?_push_of_some _ e1)
  rw [size_push']
  exact Nat.lt_succ_of_lt lt
end

/-! ### sorted(set(e)) -/
section
variable {X : Cx}
theorem bt_sorted : bootBuiltins "sorted" = some (.builtin "sorted") := by decide +kernel
def tSS (te : TE) : TE := fun σ H Q => te σ H fun v H1 => ∃ x, v = V.str x ∧ x.cps.size + 1 < scanBound ∧ ∀ p, H1 p = none → Q (.ref p) (upd H1 p (.lst ((sset x).map V.str)))
theorem pe_sortedSet {a : Expr} {ta : TE} {p p2 q pos : Pos} (hc : X.calm = true) (hg : Gl X "sorted") (hm : X.mg "sorted" = none) (hg2 : Gl X "set") (hm2 : X.mg "set" = none) (ha : PE X a ta)
    (na : starEach [a] X.env = (false, eval a X.env) :: starEach [] X.env := by rfl) : PE X (.Call (.Name "sorted" p) [.Call (.Name "set" p2) [a] [] q] [] pos) (tSS ta) where
  run := by
    intro pins s σ H Q I pre
    refine Call_ (ld_blt I hg hm bt_sorted (PyProof.Rows.callWith_builtin1 (PyProof.Rows.args_cons ?_ rfl) rfl rfl))
    refine Call_ (ld_blt I hg2 hm2 PyProof.Rows.boot_set (PyProof.Rows.callWith_type1 (PyProof.Rows.args_cons (thn (ha.run pins s σ H _ I pre) ?_) na) na rfl))
    rintro v s1 ⟨x, H1, I1, rx, x, rfl, small, post⟩
    obtain ⟨u, rfl⟩ := rx
    refine PyProof.Rows.args_nil (call_set_text (I1.ok.hd hc) small ?_)
    rintro _ ⟨h, k, rfl, S, kept⟩
    refine PyProof.Rows.args_nil ?_
    have I2 := I1.kept (t' := k) kept
    have len := length_insAll (sgs x) []
    have few : (insAll [] (sgs x)).length < scanBound := by
      have : (sgs x).length = x.cps.size := by simp [sgs]
      simp only [List.length_nil] at len
      omega
    generalize hs2 : ({ s1 with heap := h, toks := k } : Shared) = s2 at I2
    have S2 : SetS X.prog X.w s2.heap s1.heap.objs.size (insAll [] (sgs x)) := by
      rw [← hs2]
      exact S
    apply sorted_set S2 few (I2.ok.hd hc)
    intro s3 p ys Z pm
    have nd : ys.Nodup := pm.nodup_iff.mpr (nodup_insAll List.nodup_nil)
    have ey : ys = sset x := sset_of Z.up nd fun j => by
      rw [pm.mem_iff, mem_insAll]
      simp
    obtain ⟨out, c, at_, txt⟩ := Z.lst
    have free := I2.hok.fresh Z.new
    have line : ((sset x).map V.str).length ≤ sizeLine := by
      rw [List.length_map, ← ey, pm.length_eq, sizeLine_eq]
      unfold scanBound at few
      omega
    rw [ey] at txt
    have J : Inv X pins σ (upd H1 p (.lst ((sset x).map V.str))) s3 := I2.call' (ch := []) Z.os (Un.laid Z.old Z.new free) (I2.hok.laid Z.old Z.new ⟨line, out.toList, c, vals_of_strs txt, at_⟩) (by rw [Z.gens]; exact I2.bare) (fun _ z => nomatch z)
    exact ⟨.ref p, _, J, rfl, post p free⟩
end
end ST

end sec_ST2
section sec_SK1
set_option maxRecDepth 100000
set_option maxHeartbeats 5000000
/-! SK1: sorted(texts, key=lambda one: (len(one), one)), sorted(texts, key=len). A lambda is made (LamX.lam_make2 is the library's; here all but the one table is kept). -/
namespace SK
open PySem PySem.Spec PyProof.Rows L2 LamX

section
variable {H : Hp} {T : List (Addr × Str)} {P c : Addr} {q : Str} {ps more : Array Value}
/-- H with a longer table at P and a code object at c -/
def grown (H : Hp) (P : Addr) (ps : Array Value) (c : Addr) (q : Str) : Hp := upd (upd H P (.tbl ps)) c (CodeO c q)
theorem grown_old {b : Addr} {o : HO} (free : H c = none) (e : H b = some o) (n : b ≠ P) : grown H P ps c q b = some o :=
  (upd_ne (ne_of_none e free)).trans ((upd_ne n).trans e)
theorem grown_code {b : Addr} {r : Str} (tab : H P = some (.tbl ps)) (free : H c = none) (e : H b = some (CodeO b r)) : grown H P (ps ++ more) c q b = some (CodeO b r) := by
  apply grown_old free e
  rintro rfl
  exact codeO_ne ps (Option.some.inj (e.symm.trans tab))
theorem grown_tabs (one : ∀ p ∈ T, p.1 = P → p.2 = q) (tab : H P = some (.tbl ps)) (free : H c = none) (all : Tabs T H) (fit : TriplesOk (ps ++ more).toList) (new : ∀ pos cv, codeAmong pos (ps ++ more).toList = some cv → codeAmong pos ps.toList = some cv ∨ cv = .ref c) :
    Tabs T (grown H P (ps ++ more) c q) := by
  intro p hp
  obtain ⟨qs, t1, t2, t3⟩ := all p hp
  by_cases here : p.1 = P
  · obtain rfl : qs = ps := by
      rw [here, tab] at t1
      injection t1 with t1
      injection t1 with t1
      exact t1.symm
    refine ⟨qs ++ more, ?_, fit, ?_⟩
    · rw [here]
      exact (upd_ne (ne_of_none tab free)).trans upd_same
    · intro pos cv found
      rcases new pos cv found with old | rfl
      · obtain ⟨d, rfl, at_⟩ := t3 pos cv old
        exact ⟨d, rfl, grown_code tab free at_⟩
      · exact ⟨c, rfl, by rw [one p hp here]; exact upd_same⟩
  · refine ⟨qs, grown_old free t1 here, t2, ?_⟩
    intro pos cv found
    obtain ⟨d, rfl, at_⟩ := t3 pos cv found
    exact ⟨d, rfl, grown_code tab free at_⟩
end
section
variable {X : Cx} {pins : List (Addr × Obj)} {σ : L2.St}
/-- the lambda as an object -/
abbrev lamO (X : Cx) (params : Arguments) (body : Expr) (scope : Scope) (pm : Value) (c : Addr) (ctv : Value) : Obj := PySem.W.kla_obj "<lambda>" (X.env.qual ++ "<lambda>") params body scope (cloFrom X.env.cells scope.names []) pm c ctv
theorem lam_make3 {H : Hp} {s : Shared} {T : List (Addr × Str)} {c P : Addr} {params : Arguments} {body : Expr} {scope : Scope} {pos : Pos} {E : Value → Shared → Prop} {Q : Value → Shared → Prop} (I : Inv X pins σ H s) (TB : TabB X.base X.mg c P) (hcode : X.env.code = .ref c)
    (hm : (P, X.env.qual ++ "<lambda>") ∈ T) (one : ∀ p ∈ T, p.1 = P → p.2 = X.env.qual ++ "<lambda>") (all : Tabs T H) (nodef : defaultsOf params X.env = ([], [])) (free : ∀ y ∈ scope.names, y.2 = .free → ∃ c, X.env.cells.lookup y.1 = some c)
    (go : ∀ (f c2 : Addr) (pm ctv : Value) (H1 : Hp) (s1 : Shared), Inv X pins σ H1 s1 → (∀ b o, H b = some o → b ≠ P → H1 b = some o) → Tabs T H1 → s1.heap.get? f = some (lamO X params body scope pm c2 ctv) → H1 f = none → s.heap.objs.size ≤ f → H1 c2 = some (CodeO c2 (X.env.qual ++ "<lambda>")) → Q (.ref f) s1) :
    wpAny (model X.prog X.w) X.A (eval (Expr.Lambda params body scope pos) X.env) Q E s := by
  obtain ⟨ps, tab, fit, known⟩ := all _ hm
  have glob := I.mod.glob.keeps I.bk
  have hd := TB.code.keeps I.bk
  have bm := TB.bm.keeps I.bk
  apply PySem.W.kla_eval nodef
  match found : codeAmong pos ps.toList with
  | some cv =>
    obtain ⟨c2, rfl, at_⟩ := known pos cv found
    apply PySem.W.kla_makeFunctionHit (mg := X.mg) (c := c) (P := P) (ps := ps) (closure_ok free) I.ok.glob glob hcode hd (I.hok P _ tab) fit found bm
    intro ctv h k old big
    exact go h.objs.size c2 _ ctv H _ (I.kept (t' := k) fun b o e => Heap.get?_push_of_some _ (old b o e)) (fun _ _ e _ => e) all (Heap.get?_push_size _ rfl) (I.hok.fresh big) big at_
  | none =>
    apply PySem.W.kla_makeFunction (mg := X.mg) (c := c) (P := P) (ps := ps) (closure_ok free) I.ok.glob glob hcode hd (I.hok P _ tab) fit found TB.gP bm
    intro c2 ctv h k old new big rec_ tab2
    obtain ⟨c3, oc, vs, t, e3, at_, dat, nm⟩ := rec_
    injection e3 with e3
    subst e3
    have none2 := I.hok.fresh new
    have I2 := inv_table (t' := k) (h' := h.push (lamO X params body scope ((X.mg "__name__").getD .none) c2 ctv)) (q := X.env.qual ++ "<lambda>") I tab (fun b o n e => Heap.get?_push_of_some _ (old b o n e)) (Heap.get?_push_of_some _ tab2) new ⟨oc, vs, t, Heap.get?_push_of_some _ at_, dat, nm⟩
    have split : (ps ++ #[rawInt pos.line, rawInt pos.col, .ref c2]).toList = ps.toList ++ [rawInt pos.line, rawInt pos.col, .ref c2] := by rw [Array.toList_append]
    refine go h.objs.size c2 _ ctv _ _ I2 (fun b o e n => grown_old none2 e n) (grown_tabs one tab none2 all ?_ ?_) (Heap.get?_push_size _ rfl) ?_ (Nat.le_trans new (Nat.le_of_lt big)) upd_same
    · rw [split]
      exact PySem.TriplesOk_snoc _ _ _ _ fit
    · intro p cv f2
      rw [split] at f2
      exact among_app _ fit f2
    · have small := I.hok.lt tab
      show (if h.objs.size = c2 then _ else if h.objs.size = P then _ else H h.objs.size) = none
      rw [if_neg (Nat.ne_of_gt big), if_neg (Nat.ne_of_gt (Nat.lt_of_lt_of_le small (Nat.le_trans new (Nat.le_of_lt big))))]
      exact I.hok.fresh (Nat.le_trans new (Nat.le_of_lt big))
end

/-! ### the key -/
section
variable {prog : Program} {w : World} {A : Around} {s : Shared} {mg mb : Str → Option Value}
abbrev kyLen (x : Str) : PyData := .tuple [.int x.length, .str x]
/-- len(y), y -/
theorem ev_pair {q y : Str} {scope : Scope} {L f : Addr} {cd : Value} {cl : List (Str × Addr)} {x : Str} {u : Tok} {p1 p2 p3 p4 p5 : Pos} {i1 : Nat} {m : Str → Option Value} {Q : Value → Shared → Prop} {E : Value → Shared → Prop}
    (hk : scope.kind = .function) (hy : scope.names.lookup y = some .local) (hl : scope.names.lookup ("len" : Str) = some .globalImplicit) (hg : s.heap.Ns mainGlobals mg) (hm : mg "len" = none) (hb : s.heap.Ns builtinsNs mb) (hmb : mb "len" = some (.builtin "len"))
    (hn : s.heap.Ns L m) (hmy : m y = some (.str x u)) (hx : x.length ≤ sizeLine) (hd : (y == ("__debug__" : Str)) = false)
    (h : ∀ tk t, Q (.ref s.heap.objs.size) { s with heap := s.heap.push (seqObj "tuple" #[.int x.length t, .str x u] 0), toks := tk }) :
    wpAny (model prog w) A (eval (.Tuple [.Call (.Name "len" p1) [.Name y p2] [] p3, .Name y p4] i1 p5) (PySem.W.envX q scope L f cd cl)) Q E s := by
  have ldy : ∀ {p : Pos} {Q : Value → Shared → Prop} {s' : Shared}, s'.heap = s.heap → Q (.str x u) s' → wpAny (model prog w) A (eval (.Name y p) (PySem.W.envX q scope L f cd cl)) Q E s' := fun {p Q s'} e h =>
    wpAny_Name (wpAny_loadName_local hk hy (by rw [e]; exact hn) hmy h) hd
  refine wpAny_Tuple_spliced (Calls.spliced_cons ?_)
  refine Call_ (Calls.Name_function_global hk hl (Calls.loadGlobal_builtin hg hm hb hmb ?_) (by decide))
  refine PyProof.Rows.callWith_builtin1 (PyProof.Rows.args_cons (ldy rfl (PyProof.Rows.args_nil ?_)) rfl) rfl rfl
  have h63 := line63
  refine len_str (by omega) ?_
  refine Calls.spliced_cons (ldy rfl (Calls.spliced_nil ⟨?_, ?_⟩))
  · show 2 ≤ sizeLine
    decide
  · exact h _ _
end
end SK

end sec_SK1
section sec_SK2
set_option maxRecDepth 100000
set_option maxHeartbeats 5000000
namespace SK
open PySem PySem.Spec PyProof.Rows L2 LamX PySem.W

theorem reads_pair {h : Heap} {a : Addr} {x : Str} {n : Int} {t u : Tok} (ho : h.get? a = some (seqObj "tuple" #[.int n t, .str x u] 0)) : Reads h (.ref a) (.tuple [.int n, .str x]) [] :=
  Reads.tuple (vs := #[.int n t, .str x u]) ho rfl rfl (.cons (as := []) (bs := []) (.int n t) (.cons (as := []) (bs := []) (.str x u) .nil))
section
variable {prog : Program} {w : World} {A : Around} {s : Shared} {mg mb : Str → Option Value}
theorem lam_key {q y : Str} {scope : Scope} {f c' : Addr} {cl : List (Str × Addr)} {pm ctv : Value} {params : Arguments} {x : Str} {u : Tok} {p1 p2 p3 p4 p5 : Pos} {i1 : Nat}
    (hf : s.heap.get? f = some (kla_obj "<lambda>" q params (.Tuple [.Call (.Name "len" p1) [.Name y p2] [] p3, .Name y p4] i1 p5) scope cl pm c' ctv)) (hcd : s.heap.CodeRec (.ref c') q) (hroom : A.depth < recursionLimit) (hlim : s.heap.NoLimit)
    (hbind : ∀ v, bindArgs (kla_fn "<lambda>" q params (.Tuple [.Call (.Name "len" p1) [.Name y p2] [] p3, .Name y p4] i1 p5) scope cl pm (.ref c') ctv) ⟨[v], []⟩ = pure [(y, v)])
    (hk : scope.kind = .function) (hco : scope.isCoroutine = false) (hgen : scope.isGenerator = false) (hcell : ∀ x ∈ scope.names, x.2 ≠ .cell)
    (hy : scope.names.lookup y = some .local) (hl : scope.names.lookup ("len" : Str) = some .globalImplicit) (hg : s.heap.Ns mainGlobals mg) (hm : mg "len" = none) (hb : s.heap.Ns builtinsNs mb) (hmb : mb "len" = some (.builtin "len"))
    (hx : x.length ≤ sizeLine) (hd : (y == ("__debug__" : Str)) = false) :
    wpAny (model prog w) A (call (.ref f) [.str x u]) (KeyPure (kyLen x) s) (fun _ _ => False) s := by
  refine wpAny_call ?_
  refine kla_callFunE hroom hf rfl hco hgen rfl hcd ?_
  rw [hbind]
  refine wpAny_pure (wpAny_newFunctionEnv hcell (fun z hz => ?_) (fun h₁ hns hsb => ⟨hlim.fresh _ hsb, ?_⟩) hk)
  · rw [List.mem_singleton.mp hz]
    exact hy
  have kp : ∀ b o, s.heap.get? b = some o → h₁.get? b = some o := by
    intro b o e
    apply hsb.extBut b o (Nat.ne_of_lt (Heap.lt_size e))
    exact Heap.get?_push_of_some _ e
  show codeAny _ _ (.expr _ (envX q scope s.heap.objs.size f (.ref c') cl)) _ _
  refine kla_codeExpr ?_
  refine ev_pair (u := u) (s := { s with heap := h₁, toks := s.toks + [(y, Value.str x u)].length }) hk hy hl (hg.keeps kp) hm (hb.keeps kp) hmb hns ?_ hx hd fun tk t => ?_
  · show List.lookup y [(y, Value.str x u)] = _
    rw [List.lookup_cons, beq_self_eq_true]
  · refine ⟨_, _, rfl, fun b o e => Heap.get?_push_of_some _ (kp b o e), ?_⟩
    exact reads_pair (Heap.get?_push_size _ rfl)
end
/-! ### the rules -/
section
variable {X : Cx}
theorem bt_sorted : bootBuiltins "sorted" = some (.builtin "sorted") := by decide +kernel
theorem bt_len : bootBuiltins "len" = some (.builtin "len") := by decide +kernel
/-- texts, by their lengths first -/
def byLen (xs : List Str) : List Str := xs.mergeSort (dataLe false kyLen)
def IsS (v : Value) (x : Str) : Prop := ∃ u, v = .str x u
theorem each_vals : ∀ {xs : List Str} {us : List Value}, Vals (xs.map V.str) us → EachIs IsS us xs
  | [], _, h => by
    cases h
    exact .nil
  | x :: xs, _, h => by
    cases h with
    | cons r t =>
      obtain ⟨u, rfl⟩ := r
      exact .cons ⟨u, rfl⟩ (each_vals t)
theorem vals_each : ∀ {xs : List Str} {us : List Value}, EachIs IsS us xs → Vals (xs.map V.str) us
  | _, _, .nil => .nil
  | _, _, .cons ⟨u, e⟩ t => by
    subst e
    exact .cons ⟨u, rfl⟩ (vals_each t)
/-- sorted(e, key=lambda y: (len(y), y)); T: the tables, P the one of this def -/
def tSK (K : PySem.W.Frag) (T : List (Addr × Str)) (P : Addr) (te : TE) : TE := fun σ H Q => te σ H fun v H1 => ∃ l xs, v = V.ref l ∧ SqL K H1 l (xs.map V.str) ∧ (∀ x ∈ xs, x.length ≤ sizeLine) ∧ Tabs T H1 ∧ l ≠ P ∧
  ∀ H2 p, Tabs T H2 → (∀ b o, H1 b = some o → b ≠ P → H2 b = some o) → H2 p = none → Q (.ref p) (upd H2 p (.lst ((byLen xs).map V.str)))
theorem pe_sortLam {T : List (Addr × Str)} {c P : Addr} {e : Expr} {te : TE} {y : Str} {params : Arguments} {scope : Scope} {k : Nat} {p pos lpos kpos p1 p2 p3 p4 p5 : Pos} {i1 : Nat} (hg : Gl X "sorted") (hm : X.mg "sorted" = none) (hml : X.mg "len" = none) (hr : Room (k + 4) X.A)
    (TB : TabB X.base X.mg c P) (hcode : X.env.code = .ref c) (hmT : (P, X.env.qual ++ "<lambda>") ∈ T) (hu : ∀ p ∈ T, p.1 = P → p.2 = X.env.qual ++ "<lambda>") (he : PE X e te)
    (hdef : defaultsOf params X.env = ([], [])) (hfree : ∀ z ∈ scope.names, z.2 ≠ .free)
    (hbind : ∀ cl pm cd ctv v, bindArgs (kla_fn "<lambda>" (X.env.qual ++ "<lambda>") params (.Tuple [.Call (.Name "len" p1) [.Name y p2] [] p3, .Name y p4] i1 p5) scope cl pm cd ctv) ⟨[v], []⟩ = pure [(y, v)])
    (hk : scope.kind = .function) (hco : scope.isCoroutine = false) (hgen : scope.isGenerator = false) (hcell : ∀ x ∈ scope.names, x.2 ≠ .cell)
    (hy : scope.names.lookup y = some .local) (hl : scope.names.lookup ("len" : Str) = some .globalImplicit) (hd : (y == ("__debug__" : Str)) = false)
    (hs : starEach [e] X.env = (false, eval e X.env) :: starEach [] X.env := by rfl) :
    PE X (.Call (.Name "sorted" p) [e] [⟨some "key", .Lambda params (.Tuple [.Call (.Name "len" p1) [.Name y p2] [] p3, .Name y p4] i1 p5) scope lpos, kpos⟩] pos) (tSK X.K T P te) := by
  refine ⟨fun pins s σ H Q I h => ?_⟩
  refine wpAny_Call_Name_kw (ld_blt I hg hm bt_sorted ?_)
  have he' : backTo pos (starEach [e] X.env) = (false, eval e X.env) :: backTo pos (starEach [] X.env) := by rw [hs]; rfl
  refine PyProof.Rows.callWith_kw ?_ he' (by rw [he']; rfl) rfl rfl
  rw [he']
  refine Calls.spliced_cons (thn (he.run pins s σ H _ I h) fun u s1 ⟨v, H1, I1, r1, q1⟩ => Calls.spliced_nil ?_)
  obtain ⟨l, xs, rfl, hq, hxs, hT, hlP, q⟩ := q1
  cases r1
  show wpAny _ _ (evalAll ((do let v ← eval _ X.env; standAt pos; pure v) :: [])) _ _ s1
  refine wpAny_evalAll_cons (wpAny_bind (lam_make3 I1 TB hcode hmT hu hT hdef (fun z hz e => absurd e (hfree z hz)) fun f c' pm ctv H2 s2 I2 kE hT2 hf _ _ hco' => wpAny_bind (wpAny_standAt (wpAny_pure (wpAny_evalAll_nil ?_)))))
  have hq2 : SqL X.K H2 l (xs.map V.str) := by
    rcases hq with (z | ⟨o, z⟩) | z
    · exact .inl (.inl (kE _ _ z hlP))
    · exact .inl (.inr ⟨o, kE _ _ z hlP⟩)
    · exact .inr z
  obtain ⟨its, rv, pl, hz⟩ := I2.list hq2
  have ez := each_vals rv
  have hlen : xs.length ≤ sizeLine := by rw [List.length_map] at hz; exact hz
  obtain ⟨⟨oc, cvs, ct, hoc, hdc, hvc⟩, _, _⟩ := I2.hok c' _ hco'
  obtain ⟨mb, hb1, hb2⟩ := I2.mod.blt
  have hun := hr.units
  refine sorted_key_data (b := false) kyLen pl.isList ez (AllAlike.of fun _ _ => by simp [alike, alikeAll]) (Sortable.tuples fun _ => ⟨_, _, rfl⟩) hlen (fun x _ => ?_) (ksk_s1 _ _) (fun _ => ksk_l1 _ _) (fun _ => ksk_t1 _ _) (fun v x ⟨u, e⟩ hx h tk kp => ?_) fun out c0 h' tk kp hn hD hol eo => ?_
  · have hd : (kyLen x).depth = 1 := by simp [PyData.depth, PyData.depthAll]
    omega
  · subst e
    have dp := hr.dp
    refine lam_key (s := { s2 with heap := h, toks := tk }) (mg := X.mg) (mb := mb) (kp _ _ hf) ⟨c', oc, cvs, ct, rfl, kp _ _ hoc, hdc, hvc⟩ ?_ ((I2.nolimit).keeps kp) (fun v => hbind _ _ _ _ v) hk hco hgen hcell hy hl ((I2.mod.glob.keeps I2.bk).keeps kp) hml ((hb1.keeps I2.bk).keeps kp) ((hb2 _ (by decide)).trans bt_len) (hxs x hx) hd
    exact hr.depth
  · have hnp : H2 (s2.heap.objs.size + 1) = none := I2.hok.fresh (Nat.le_succ _)
    have hl2 : ((byLen xs).map V.str).length ≤ sizeLine := by
      rw [List.length_map]
      unfold byLen
      rw [List.length_mergeSort]
      exact hlen
    exact ⟨.ref _, upd H2 (s2.heap.objs.size + 1) (.lst ((byLen xs).map V.str)), I2.laid (t' := tk) kp (Nat.le_succ _) ⟨hl2, out, c0, vals_each eo, hD⟩, rfl, q _ _ hT2 kE hnp⟩
end
end SK

end sec_SK2
section sec_FD8
set_option maxRecDepth 100000
set_option maxHeartbeats 5000000
/-! FD8: C(..), built-in functions and operators, stores into what a slot owns. -/
namespace FD
open PySem L2
variable [Tabl]

structure MakD (P : Program) (w : World) (K : PySem.W.Frag) (mg : Str → Option Value) (base : Heap) (k : Nat) (cn : Str) (n : Nat) (dd : List D) (den : List D → W → Option (List (Str × D) × W)) : Prop where
  ex : ∃ (C f : Addr) (fd : FuncData) (ps : List Str) (ds : List Value) (dvs : List V), Mk K C f ∧ FnOk P w K mg base CX0 k f fd ps (spI ⟨K, mg⟩ n cn den) ∧ mg cn = some (.ref C) ∧ Binds K fd ps ds ∧ Vals dvs ds ∧ ∀ da G, RepAll ⟨K, mg⟩ da G dvs dd
def makM (cn : Str) (den : List D → W → Option (List (Str × D) × W)) (dd : List D) (fa : M (List RV)) : M RV := bindM fa fun rs => bindM (escAll rs) fun ds => fun ρ w => match den (ds ++ dd) w with
  | some (gs, w') => some (.sh (.ins cn gs), ρ, w')
  | none => none
section
variable {X : Cx} {e o : Expr} {es : List Expr} {pos p apos cpos : Pos} {x m f cn : Str} {k j n : Nat} {dd : List D} {fa : M (List RV)} {fo fe fe' : M RV}
theorem fe_make {den : List D → W → Option (List (Str × D) × W)} (cl : MakD X.prog X.w X.K X.mg X.base k cn n dd den) (hr : Room j X.A) (hg : Gl X cn) (ha : FA X (e :: es) fa) (hk : k + 1 ≤ j := by decide) (hn : (e :: es).length + dd.length + 1 = n := by rfl)
    (hdb : (cn == ("__debug__" : Str)) = false := by decide) (he : starEach (e :: es) X.env = (false, eval e X.env) :: starEach es X.env := by rfl) (hpl : (backTo pos (starEach es X.env)).any (·.1) = false := by rfl) :
    FE X (.Call (.Name cn p) (e :: es) [] pos) (makM cn den dd fa) := fun F => by
  obtain ⟨C, f, fd, ps, ds, dvs, M, FO, hm, b, d, rd⟩ := cl.ex
  refine PE.wk (pe_make M FO (hr.mono hk) hg hm b d pass0 (ha.run F) hdb he hpl) fun σ H Q q => ?_
  obtain ⟨O, ρ, w, r, ρ', w', S, e, k⟩ := q
  refine tA_then S e fun vs O1 ρ1 w1 H1 rs S1 e1 R1 f1 h1 => ?_
  obtain ⟨ds1, ρ2, w2, h2, h3⟩ := bindM_some h1
  obtain ⟨rfl, O2, S2, k2, r2⟩ := escAll_ok S1 R1 h2
  split at h3
  · rename_i gs w3 h4
    cases h3
    intro y dx ny ndx ne
    have nO : y ∉ O2 := fun z => by
      obtain ⟨o, q, _⟩ := S2.trk y z
      rw [ny] at q
      cases q
    have x3 : Ex H1 (upd (upd H1 dx (.own y)) y (.ins C dx [])) := fun a o h => by
      rw [upd_ne (ne_of_none h ny), upd_ne (ne_of_none h ndx)]
      exact h
    have xh : Ex (vis O2 H1) (vis (y :: O2) (upd (upd H1 dx (.own y)) y (.ins C dx []))) := fun a o h => by
      obtain ⟨n, h⟩ := vis_some h
      rw [vis_out fun z => ?_]
      · exact x3 a o h
      · rcases List.mem_cons.mp z with z | z
        · exact ne_of_none h ny z
        · exact n z
    refine ⟨y, C, dx, vs ++ dvs, F.dr, O2, _, ds1 ++ dd, gs, _, rfl, hm, upd_same, nO, S2.drO, fun b hb => ?_, S2.draw.to x3 xh, (r2.append (rd _ _)).mono xh, ?_, h4, fun H' dx' fs kp hw ha rf => ⟨rfl, ?_⟩⟩
    · obtain ⟨o, q, nt⟩ := S2.trk b hb
      exact ⟨o, x3 _ _ q, nt⟩
    · rw [List.length_append, r2.len2, ← R1.length, ha.len _ _ _ _ _ f1]
      exact hn
    · have kp' : Kp F.dr H1 H' := fun b o hb nd => kp b o (x3 b o hb) (ne_of_none hb ny) nd
      refine k _ O2 H' (S2.kept kp' hw.pop) ((e1.trans k2).trans (vis_kp S2.drO kp')) (.ins (C := C) (dx := dx') (fs := fs) ?_ hm (rf.mono vis_cons))
      rw [vis_out nO]
      exact ha
  · cases h3

/-! ### built-in functions -/
def bM (g : List D → Option RV) (fa : M (List RV)) : M RV := bindM fa fun rs => liftN g rs
theorem b_read {c : Ct} {F : Fm} {g : List D → Option RV} {σ : L2.St} {H : Hp} {Q : VK} (h : tE c F (bM g fa) σ H Q) : tCB (rPure c g) (tA c F fa) σ H Q := by
  obtain ⟨O, ρ, w, r, ρ', w', S, e, k⟩ := h
  refine tA_then S e fun vs O1 ρ1 w1 H1 rs S1 e1 R1 f1 h1 => ?_
  obtain ⟨ds, r', p1, eg, ez⟩ := liftN_some h1
  cases ez
  exact ⟨F.dr.da, O1, ds, r, S1.trk, R1.peeks S1 p1, eg, fun v H3 e3 n => k v O1 H3 (S1.grow e3) (e1.trans (vis_mono e3)) ((n.out S1 e3).less e1)⟩
theorem fe_b {id : String} {g : List D → Option RV} (hc : CallR X (.builtin id) (rPure (ct X) g)) (hg : Gl X x) (hm : X.mg x = none) (hv : bootBuiltins x = some (.builtin id)) (ha : FA X (e :: es) fa) (hn : x ≠ "__name__" := by decide) (hdb : (x == ("__debug__" : Str)) = false := by decide)
    (he : starEach (e :: es) X.env = (false, eval e X.env) :: starEach es X.env := by rfl) (hpl : (backTo pos (starEach es X.env)).any (·.1) = false := by rfl) : FE X (.Call (.Name x p) (e :: es) [] pos) (bM g fa) := fun F =>
  PE.wk (pe_callB hc hg hm hv (ha.run F) hn hdb he hpl) fun σ H Q q => b_read q
theorem fe_ty {T : String} {g : List D → Option RV} (hc : CallR X (.type T) (rPure (ct X) g)) (hg : Gl X x) (hm : X.mg x = none) (hv : bootBuiltins x = some (.type T)) (ha : FA X (e :: es) fa) (hn : x ≠ "__name__" := by decide) (hdb : (x == ("__debug__" : Str)) = false := by decide)
    (he : starEach (e :: es) X.env = (false, eval e X.env) :: starEach es X.env := by rfl) (hpl : (backTo pos (starEach es X.env)).any (·.1) = false := by rfl) : FE X (.Call (.Name x p) (e :: es) [] pos) (bM g fa) := fun F =>
  PE.wk (pe_callTy hc hg hm hv (ha.run F) hn hdb he hpl) fun σ H Q q => b_read q
theorem fe_ix {a b : Expr} {fa fb : M RV} {g : D → D → Option RV} (hr : IxR X (rP2 (ct X) g)) (ha : FE X a fa) (hb : FE X b fb) (hs : PlainIx b) : FE X (.Subscript a b pos) (op2M g fa fb) := fun F =>
  PE.wk (pe_ix hr (ha F) (hb F) hs) fun σ H Q h => op2_read h
/-- o.m(e), a method of a text -/
def strM (g : Str → D → Option RV) (fo fe : M RV) : M RV := bindM fo fun r => match r with
  | .sh (.str s) => bindM fe fun r2 => lift1 (g s) r2
  | _ => failM
abbrev Alone (X : Cx) (e : Expr) : Prop := starEach [e] X.env = [(false, eval e X.env)]
abbrev BaseOk (X : Cx) (o : Expr) (m : Str) : Prop := attributeBase o m X.env (eval o X.env) = eval o X.env
theorem fe_m1 {id : String} {name : Str} {g : Str → D → Option RV} (slot : PySem.Slot "str" name id) (ty : typeOf (.builtin id) = pure (.type "method_descriptor")) (rule : MtR X id (fun x xs H Q => ∃ s y, x = .str s ∧ xs = [y] ∧ rP1 (ct X) (g s) y H Q)) (ho : FE X o fo) (he : FE X e fe)
    (hs : Alone X e := by rfl) (hbase : BaseOk X o name := by rfl) (hline : (apos.endLine == pos.line) = true := by rfl) :
    FE X (.Call (.Attribute o name apos) [e] [] pos) (strM g fo fe) := fun F =>
  PE.wk (pe_m1 slot ty rule (ho F) (he F) hs hbase hline) fun σ H Q h => by
    obtain ⟨O, ρ, w, r, ρ', w', S, e, k⟩ := h
    refine tE_then S e fun x O1 ρ1 w1 H1 r1 S1 e1 R1 h1 => ?_
    split at h1
    · rename_i s
      have ex : x = .str s := by
        cases R1
        rfl
      refine ⟨⟨s, ex⟩, ?_⟩
      refine tE_then S1 h1 fun y O2 ρ2 w2 H2 r2 S2 e2 R2 h2 => ?_
      obtain ⟨d1, r', p1, eg, ez⟩ := lift1_some h2
      cases ez
      exact ⟨s, y, ex, rfl, F.dr.da, O2, d1, r, S2.trk, R2.hold.peek S2 p1, eg, fun v H3 e3 n => k v O2 H3 (S2.grow e3) ((e1.trans e2).trans (vis_mono e3)) ((n.out S2 e3).less (e1.trans e2))⟩
    · cases h1
/-! ### sorted(set(text)), sorted by key -/
theorem new_lst {c : Ct} {F : Fm} {O : List Addr} {ρ : Env} {w : W} {σ : L2.St} {H : Hp} {p : Addr} {xs : List V} {ds : List D} (S : SR c F O ρ w σ H) (np : H p = none) (r : RepAll c F.dr.da (vis O H) xs ds) :
    SR c F O ρ w σ (upd H p (.lst xs)) ∧ Ex (vis O H) (vis O (upd H p (.lst xs))) ∧ RepR c F (vis O H) O ρ w σ (upd H p (.lst xs)) (.fr (.lst ds)) (.ref p) := by
  have x2 : Ex H (upd H p (.lst xs)) := Ex.new np
  obtain ⟨S3, n3, k3⟩ := S.hide np x2 upd_same
  exact ⟨S.grow x2, vis_mono x2, p, _, rfl, n3, S3, upd_same, .inl ⟨xs, ds, rfl, rfl, r.mono k3⟩, k3⟩
def ssetM (f : M RV) : M RV := bindM f fun r => match r with
  | .sh (.str x) => if x.cps.size < 4000 then pureM (.fr (.lst ((ST.sset x).map D.str))) else failM
  | _ => failM
theorem fe_sset {p2 q : Pos} (hc : X.calm = true) (hg : Gl X "sorted") (hm : X.mg "sorted" = none) (hg2 : Gl X "set") (hm2 : X.mg "set" = none) (ha : FE X e fe)
    (na : starEach [e] X.env = (false, eval e X.env) :: starEach [] X.env := by rfl) : FE X (.Call (.Name "sorted" p) [.Call (.Name "set" p2) [e] [] q] [] pos) (ssetM fe) := fun F =>
  PE.wk (ST.pe_sortedSet hc hg hm hg2 hm2 (ha F) na) fun σ H Q h => by
    obtain ⟨O, ρ, w, r, ρ', w', S, e, k⟩ := h
    refine tE_then S e fun v O1 ρ1 w1 H1 r1 S1 e1 R1 h1 => ?_
    split at h1
    · rename_i x
      split at h1
      · rename_i hx
        cases h1
        cases R1
        refine ⟨x, rfl, by unfold scanBound; omega, fun p np => ?_⟩
        obtain ⟨S2, k2, R2⟩ := new_lst S1 np (RepAll.strs (ST.sset x))
        exact k _ O1 _ S2 (e1.trans k2) (R2.less e1)
      · cases h1
    · cases h1
def asStr : D → Option Str
  | .str x => some x
  | _ => none
def asStrs : List D → Option (List Str)
  | [] => some []
  | d :: r => match asStr d with
    | some x => (match asStrs r with | some xs => some (x :: xs) | none => none)
    | none => none
theorem asStrs_map : ∀ (xs : List Str), asStrs (xs.map D.str) = some xs
  | [] => rfl
  | x :: r => by
    rw [List.map_cons]
    unfold asStrs
    rw [asStrs_map r]
    rfl
theorem asStrs_some : ∀ {ds : List D} {xs : List Str}, asStrs ds = some xs → ds = xs.map D.str
  | [], _, h => by
    cases h
    rfl
  | d :: r, _, h => by
    unfold asStrs at h
    split at h
    · rename_i x e
      split at h
      · rename_i xs e2
        cases h
        rw [asStrs_some e2]
        unfold asStr at e
        split at e
        · cases e
          rfl
        · cases e
      · cases h
    · cases h
def textsD : D → Option (List Str)
  | .lst ds => asStrs ds
  | _ => none
def sortM (srt : List Str → List Str) (f : M RV) : M RV := bindM f fun r => lift1 (fun d => match textsD d with
  | some xs => if xs.all (fun x => decide (x.length ≤ 1000000)) = true then some (.fr (.lst ((srt xs).map D.str))) else none
  | none => none) r
theorem textsD_lst {d : D} {xs : List Str} (h : textsD d = some xs) : d = .lst (xs.map D.str) := by
  unfold textsD at h
  split at h
  · rw [asStrs_some h]
  · cases h
theorem sort_in {r : RV} {srt : List Str → List Str} {ρ : Env} {w : W} {z : RV × Env × W} (h : lift1 (fun d => match textsD d with
  | some xs => if xs.all (fun x => decide (x.length ≤ 1000000)) = true then some (RV.fr (.lst ((srt xs).map D.str))) else none
  | none => none) r ρ w = some z) : ∃ xs, peek ρ w r = some (.lst (xs.map D.str)) ∧ (∀ x ∈ xs, x.length ≤ sizeLine) ∧ z = (.fr (.lst ((srt xs).map D.str)), ρ, w) := by
  obtain ⟨d1, r', p1, eg, ez⟩ := lift1_some h
  split at eg
  · rename_i xs ex
    split at eg
    · rename_i hx
      cases eg
      refine ⟨xs, by rw [p1, textsD_lst ex], fun x hx' => small_fits ?_, ez⟩
      simpa using List.all_eq_true.mp hx x hx'
    · cases eg
  · cases eg
end
end FD

end sec_FD8
section sec_OE1
set_option maxRecDepth 100000
set_option maxHeartbeats 5000000
/-! OE: != of an instance by object.__ne__ over an own __eq__, whatever stands at the right. -/
namespace OE
open PySem PySem.Spec PyProof.Rows L2
/-- the class at C has an own __eq__ at f, and object's __ne__ -/
structure OwnEq (K : PySem.W.Frag) (C f : Addr) : Prop where
  ne : PySem.W.findIn K (.ref C) "__ne__" = some (some (.builtin "object.__ne__"))
  obj : PySem.W.subIn K (.ref C) (.type "object") = some true
  eq : PySem.W.findIn K (.ref C) "__eq__" = some (some (.ref f))
  fn : PySem.W.isFn K (.ref f) = true
section
variable {P : Program} {w : World} {A : Around} {E : Value → Shared → Prop} {s : Shared} {K : PySem.W.Frag} {x C f : Addr} {ox : Obj} {od : Option Obj} {b tb : Value}
/-- the answer of __eq__, turned about -/
def Turned (Q : Value → Shared → Prop) (v : Value) (s : Shared) : Prop := ∃ c, v = .bool c ∧ Q (.bool (!c)) s
theorem slot {Q : Value → Shared → Prop} (room : A.units + 1 < cLine) (X : K.In s.heap) (I : PySem.W.InstAt s.heap x ox C od) (O : OwnEq K C f) (run : wpAny (model P w) A.in1 (call (.ref f) [.ref x, b]) (Turned Q) E s) :
    wpAny (model P w) A (call (.builtin "object.__ne__") [.ref x, b]) Q E s := by
  apply wpAny_call
  apply codeAny_call_builtin (by decide +kernel) F.cmpEntry_ne
  apply PySem.W.check_slot (M := model P w) F.cmpKind_ne F.cmpSplit_ne (I.type.andThen (PySem.W.looks_subIn X O.obj)) (F.cmpArgs_ne _ _)
  show wpAny _ A.in1 (Builtin.«object.__ne__» _) _ _ s
  rw [Builtin.«object.__ne__»]
  apply wpAny_bind (m := slotArgs "__ne__" 1 ⟨[.ref x, b], []⟩)
  apply wpAny_pure
  apply wpAny_bind
  apply wpAny_cRoomFor (A := A.in1) room
  apply wpAny_bind
  apply PySem.W.ifBound_K X I O.eq O.fn
  apply wpAny_mono run ?_ (fun _ _ => id)
  rintro v s2 ⟨c, rfl, q⟩
  exact wpAny_bind (wpAny_truthy_bool (wpAny_pure q))
theorem bound {Q : Option Value → Shared → Prop} (room : A.units + 1 < cLine) (X : K.In s.heap) (I : PySem.W.InstAt s.heap x ox C od) (O : OwnEq K C f) (run : wpAny (model P w) A.in1 (call (.ref f) [.ref x, b]) (Turned fun v => Q (some v)) E s) :
    wpAny (model P w) A (callSpecialIfBound? (.ref x) "__ne__" [b]) Q E s := by
  have self : bindSpecial (.builtin "object.__ne__") (.ref x) = pure (.builtin "object.__ne__", [.ref x]) := by kernel_rfl
  have last : wpAny (model P w) A (do let v ← call (.builtin "object.__ne__") ([.ref x] ++ [b]); pure (some v)) Q E s :=
    wpAny_bind (wpAny_mono (slot (Q := fun v => Q (some v)) room X I O run) (fun _ _ => wpAny_pure) fun _ _ => id)
  unfold callSpecialIfBound? bindSpecialIfBound?
  apply wpAny_holding
  apply wpAny_bind
  apply wpAny_bind
  apply wpAny_bind
  apply I.type.here
  apply (PySem.W.looks_findIn X O.ne).here
  apply wpAny_bind
  apply wpAny_askSetting
  apply wpAny_ite
  split <;> rw [self]
  · exact wpAny_bind (wpAny_pure (wpAny_pure last))
  · exact wpAny_tryCatch (wpAny_bind (wpAny_pure (wpAny_pure last)))
theorem ne_own {Q : Value → Shared → Prop} (room : A.units + 1 < cLine) (X : K.In s.heap) (I : PySem.W.InstAt s.heap x ox C od) (O : OwnEq K C f) (right : PySem.W.Looks (model P w) s.heap (typeOf b) tb) (later : PySem.W.notFirst K C tb = true)
    (run : wpAny (model P w) A.in1 (call (.ref f) [.ref x, b]) (Turned Q) E s) : wpAny (model P w) A (richCompare .NotEq (.ref x) b) Q E s := by
  have asked : wpAny (model P w) A (tryCompare (.ref x) "__ne__" b) (fun r s2 => ∃ v, r = some v ∧ Q v s2) E s := by
    unfold tryCompare
    apply wpAny_bind
    apply bound room X I O
    apply wpAny_mono run ?_ (fun _ _ => id)
    rintro v s2 ⟨c, rfl, q⟩
    exact ⟨c, rfl, wpAny_pure ⟨_, rfl, q⟩⟩
  have told : ∀ {g : Option Value → Sem Value} (hg : ∀ v, g (some v) = pure v), wpAny (model P w) A (tryCompare (.ref x) "__ne__" b >>= g) Q E s := by
    intro g hg
    apply wpAny_bind
    apply wpAny_mono asked ?_ (fun _ _ => id)
    rintro r s2 ⟨v, rfl, q⟩
    rw [hg]
    exact wpAny_pure q
  have roomy : A.units < cLine := Nat.lt_of_succ_lt room
  unfold richCompare
  simp only [oneThing_ref]
  apply wpAny_holding
  apply wpAny_bind
  apply wpAny_cRoomFor roomy
  apply wpAny_bind
  apply I.type.here
  apply wpAny_bind
  apply right.here
  by_cases same : (Value.ref C != tb) = true
  · rw [if_pos same]
    have no : PySem.W.subIn K tb (.ref C) = some false := by
      unfold PySem.W.notFirst at later
      simp only [Bool.or_eq_true, beq_iff_eq] at later
      rcases later with z | z
      · rw [z] at same
        simp at same
      · exact z
    apply wpAny_bind
    apply (PySem.W.looks_subIn X no).here
    exact told fun _ => rfl
  · rw [if_neg same]
    apply wpAny_bind
    apply wpAny_pure
    exact told fun _ => rfl
end
end OE

end sec_OE1
section sec_FD9
set_option maxRecDepth 100000
set_option maxHeartbeats 5000000
/-! FD9: kinds of values, isinstance, own ==, lists that a slot owns. -/
namespace FD
open PySem L2
variable [Tabl]

def tyB : D → Option String
  | .non => some "NoneType"
  | .bl _ => some "bool"
  | .int _ => some "int"
  | .str _ => some "str"
  | .tup _ => some "tuple"
  | .ktup _ => some "tuple"
  | .lst _ => some "list"
  | .dic _ => some "dict"
  | .dit _ => some "dict"
  | _ => none
section
variable {c : Ct} {da : DA} {O : List Addr} {H : Hp} {v : V}
theorem ty_of {d : D} {T : String} (h : RepP c da O H v d) (e : tyB d = some T) : TyX c.K H v (.type T) := by
  cases d with
  | non => cases e; rw [h.non]; exact .base .non
  | bl b => cases e; rw [h.bl]; exact .base (.bl b)
  | int i => cases e; rw [h.int]; exact .base (.int i)
  | str x => cases e; rw [h.str]; exact .base (.str x)
  | tup ds =>
    cases e
    obtain ⟨a, xs, rfl, s, _, _⟩ := h.tup
    rcases s with (s | ⟨o, s⟩) | ⟨o, its, n, hk, hc, _⟩
    · exact .base (.tup s)
    · exact .fTuple s
    · exact .kTuple hk hc
  | ktup ds =>
    cases e
    obtain ⟨a, xs, rfl, s, _, _⟩ := h.ktup
    rcases s with (s | ⟨o, s⟩) | ⟨o, its, n, hk, hc, _⟩
    · exact .base (.tup s)
    · exact .fTuple s
    · exact .kTuple hk hc
  | lst ds =>
    cases e
    obtain ⟨a, xs, rfl, s, _⟩ := h.lst
    exact .base (.lst s)
  | dic ps =>
    cases e
    obtain ⟨a, kvs, rfl, s, _⟩ := h.dic
    exact .base (.dK s)
  | dit ps =>
    cases e
    obtain ⟨a, kvs, rfl, s, _⟩ := h.dit
    exact .base (.dT s)
  | _ => cases e
structure InsTy (K : PySem.W.Frag) (mg : Str → Option Value) (cn : Str) (C : Addr) : Prop where
  m : mg cn = some (.ref C)
  cl : Cls K C
  ok : PySem.W.findIn K (.ref C) "__class__" = some (some (.builtin "object.__class__")) ∧ PySem.W.specialIn K (.builtin "object.__class__") "__get__" = some (some (.builtin "getset_descriptor.__get__")) ∧
    PySem.W.takesIn K (.builtin "object.__class__") = some true ∧ PySem.W.mroIn K C (.type "object") = some true
theorem ty_ins {cn : Str} {gs : List (Str × D)} {C : Addr} (h : RepP c da O H v (.ins cn gs)) (i : InsTy c.K c.mg cn C) : TyX c.K H v (.ref C) := by
  obtain ⟨a, C', dx, fs, rfl, e, m, _⟩ := h.ins
  rw [i.m] at m
  cases m
  exact .base (.ins e i.cl i.ok.1 i.ok.2.1 i.ok.2.2.1 i.ok.2.2.2)
end
/-- what is known of a value's type: bt of the built-in ones, ic of instances -/
structure KndD (K : PySem.W.Frag) (mg : Str → Option Value) (ok : Value → Bool → Prop) (bt : String → Bool) (ic : List (Str × Bool)) : Prop where
  bi : ∀ T ∈ ["NoneType", "bool", "int", "str", "tuple", "list", "dict"], ok (.type T) (bt T)
  ins : ∀ p ∈ ic, ∃ C, InsTy K mg p.1 C ∧ ok (.ref C) p.2
def isiD (bt : String → Bool) (ic : List (Str × Bool)) : D → Option Bool
  | .ins cn _ => ic.lookup cn
  | d => (tyB d).map bt
theorem lookup_mem {α : Type} {l : List (Str × α)} {k : Str} {x : α} (h : l.lookup k = some x) : (k, x) ∈ l := PySem.mem_of_lookup h
theorem knd_of {c : Ct} {da : DA} {O : List Addr} {H : Hp} {v : V} {d : D} {ok : Value → Bool → Prop} {bt : String → Bool} {ic : List (Str × Bool)} {b : Bool} (k : KndD c.K c.mg ok bt ic) (h : RepP c da O H v d) (e : isiD bt ic d = some b) : ∃ t, TyX c.K H v t ∧ ok t b := by
  have gen : ∀ d, RepP c da O H v d → (tyB d).map bt = some b → ∃ t, TyX c.K H v t ∧ ok t b := fun d h e => by
    cases q : tyB d with
    | none =>
      rw [q] at e
      cases e
    | some T =>
      rw [q] at e
      cases e
      refine ⟨_, ty_of h q, k.bi T ?_⟩
      cases d <;> first | cases q; done | (cases q; simp)
  cases d with
  | ins cn gs =>
    obtain ⟨C, i, o⟩ := k.ins _ (lookup_mem e)
    exact ⟨_, ty_ins h i, o⟩
  | _ => exact gen _ h e

section
variable {X : Cx} {a b e o c1 : Expr} {es cs : List Expr} {pos p p2 apos cpos : Pos} {x m f cn : Str} {k j n i : Nat} {dd : List D} {fa fb fo fe fe' : M RV} {fas : M (List RV)}
def tKs (us : List V) : TA := fun _ H Q => Q us H
theorem pks_nil : PA X [] (tKs []) := pa_nil
theorem pks_cons {u : V} {us : List V} (h : PE X e (tC u)) (hr : PA X es (tKs us)) (hs : starEach (e :: es) X.env = (false, eval e X.env) :: starEach es X.env := by rfl) : PA X (e :: es) (tKs (u :: us)) := pa_cons h hr hs
theorem bt_isi : bootBuiltins "isinstance" = some (.builtin "isinstance") := by decide +kernel
def isiM (bt : String → Bool) (ic : List (Str × Bool)) (fa : M RV) : M RV := op1M (fun d => (isiD bt ic d).map fun b => .sh (.bl b)) fa
theorem fe_isi {u : V} {uv : Value} {bt : String → Bool} {ic : List (Str × Bool)} (hg : Gl X "isinstance") (hm : X.mg "isinstance" = none) (hc : PE X c1 (tC u)) (hu : ClsV u uv) (hk : KndD X.K X.mg (fun t b => PySem.W.kitOne X.K t uv = some b) bt ic) (ha : FE X a fa)
    (hs : starEach [a, c1] X.env = (false, eval a X.env) :: starEach [c1] X.env := by rfl) (hs2 : starEach [c1] X.env = (false, eval c1 X.env) :: starEach [] X.env := by rfl) (hpl : (backTo pos (starEach [c1] X.env)).any (·.1) = false := by rfl) :
    FE X (.Call (.Name "isinstance" p) [a, c1] [] pos) (isiM bt ic fa) := fun F =>
  PE.wk (pe_callB call_isi hg hm bt_isi (pa_cons (ha F) (pks_cons hc pks_nil hs2) hs) (by decide) (by decide) hs hpl) fun σ H Q q => by
    obtain ⟨O, ρ, w, r, ρ', w', S, e, k⟩ := q
    refine tE_then S e fun v O1 ρ1 w1 H1 r1 S1 e1 R1 h1 => ?_
    obtain ⟨d1, r', p1, eg, ez⟩ := lift1_some h1
    cases ez
    cases q : isiD bt ic d1 with
    | none =>
      rw [q] at eg
      cases eg
    | some b =>
      rw [q] at eg
      cases eg
      obtain ⟨t, ty, ok⟩ := knd_of (c := ct X) hk (R1.hold.peek S1 p1) q
      exact ⟨v, u, t, uv, b, rfl, hu, ty, ok, k _ O1 H1 S1 e1 (.bl b)⟩
theorem fe_isiT {us : List V} {uvs : List Value} {bt : String → Bool} {ic : List (Str × Bool)} {i1 : Nat} (hg : Gl X "isinstance") (hm : X.mg "isinstance" = none) (hc : PA X cs (tKs us)) (hl : us.length ≤ 1000000) (hu : Paired ClsV us uvs) (hk : KndD X.K X.mg (fun t b => PySem.W.kitAny X.K t uvs = some b) bt ic) (ha : FE X a fa)
    (hs : starEach [a, .Tuple cs i1 p2] X.env = (false, eval a X.env) :: starEach [.Tuple cs i1 p2] X.env := by rfl) (hs2 : starEach [.Tuple cs i1 p2] X.env = (false, eval (.Tuple cs i1 p2) X.env) :: starEach [] X.env := by rfl) (hpl : (backTo pos (starEach [.Tuple cs i1 p2] X.env)).any (·.1) = false := by rfl) :
    FE X (.Call (.Name "isinstance" p) [a, .Tuple cs i1 p2] [] pos) (isiM bt ic fa) := fun F =>
  PE.wk (pe_callB call_isiT hg hm bt_isi (pa_cons (ha F) (pa_cons (pe_tup hc) pa_nil hs2) hs) (by decide) (by decide) hs hpl) fun σ H Q q => by
    obtain ⟨O, ρ, w, r, ρ', w', S, e, k⟩ := q
    refine tE_then S e fun v O1 ρ1 w1 H1 r1 S1 e1 R1 h1 => ?_
    obtain ⟨d1, r', p1, eg, ez⟩ := lift1_some h1
    cases ez
    cases q : isiD bt ic d1 with
    | none =>
      rw [q] at eg
      cases eg
    | some b =>
      rw [q] at eg
      cases eg
      refine ⟨small_fits hl, fun p np => ?_⟩
      have x2 : Ex H1 (upd H1 p (.tup us)) := Ex.new np
      have S2 := S1.grow x2
      obtain ⟨t, ty, ok⟩ := knd_of (c := ct X) hk ((R1.hold.mono (vis_mono x2)).peek S2 p1) q
      exact ⟨v, p, us, t, uvs, b, rfl, upd_same, hu, ty, ok, k _ O1 _ S2 (e1.trans (vis_mono x2)) (.bl b)⟩

/-! ### an own __eq__ -/
theorem run_any {A : Around} {pins : List (Addr × PySem.Obj)} {σ : L2.St} {H : Hp} {s : Shared} {Q : VK} {us : List Value} {vs : List V} {f : Addr} {fd : FuncData} {ps : List Str} {sp : Sp} (F : FnOk X.prog X.w X.K X.mg X.base CX0 k f fd ps sp) (hr : Room k A) (e0 : Env0 X.prog X.w X.K X.mg X.base A X.stack s H) (hb : Binds X.K fd ps [])
    (I : Inv X pins σ H s) (r : Vals vs us) (h : sp vs H Q E0) : wpAny (model X.prog X.w) A (call (.ref f) us) (EP X pins σ Q) X.xe s := by
  have hb' := hb s us I.kIn (by rw [List.append_nil, ← r.length]; exact F.len vs H Q E0 h)
  rw [List.append_nil] at hb'
  refine wpAny_call (codeAny_mono (F.run A X.stack s H ⟨us, []⟩ us vs Q E0 hr e0 hb' r h) fun r s' hq => ?_)
  cases r with
  | error e => exact pass0 pins σ H s e s' I hq
  | ok fl =>
    cases fl with
    | ret u => exact I.after hq
    | next => exact False.elim hq
    | brk => exact False.elim hq
    | cont => exact False.elim hq
structure EqsD (P : Program) (w : World) (K : PySem.W.Frag) (mg : Str → Option Value) (base : Heap) (k : Nat) (cn : Str) (ic : List (Str × Bool)) (den : List D → W → Option (RV × W)) : Prop where
  ex : ∃ (C f : Addr) (fd : FuncData) (ps : List Str), mg cn = some (.ref C) ∧ PySem.W.findIn K (.ref C) "__ne__" = some (some (.builtin "object.__ne__")) ∧ PySem.W.subIn K (.ref C) (.type "object") = some true ∧ PySem.W.findIn K (.ref C) "__eq__" = some (some (.ref f)) ∧ PySem.W.isFn K (.ref f) = true ∧
    FnOk P w K mg base CX0 k f fd ps (spD ⟨K, mg⟩ 2 den) ∧ Binds K fd ps [] ∧ KndD K mg (fun t b => PySem.W.notFirst K C t = b ∧ b = true) (fun _ => true) ic
def rEq (c : Ct) (cn : Str) (ic : List (Str × Bool)) (den : List D → W → Option (RV × W)) (ne : Bool) : R2 := fun x y H Q => ∃ gs d2 da O, RepP c da O H x (.ins cn gs) ∧ RepP c da O H y d2 ∧ isiD (fun _ => true) ic d2 = some true ∧ spD c 2 den [x, y] H (fun v H' => ∃ b, v = .bl b ∧ Q (.bl (if ne then !b else b)) H') E0
theorem op_neO {ic : List (Str × Bool)} {den : List D → W → Option (RV × W)} (cl : EqsD X.prog X.w X.K X.mg X.base k cn ic den) (hr : Room (k + 1) X.A) : OpR X (compareOp .NotEq) (rEq (ct X) cn ic den true) := by
  intro pins s σ H x y v u Q I rx ry h
  obtain ⟨C, f, fd, ps, mc, h1, h2, h3, h4, FO, hb, kd⟩ := cl.ex
  obtain ⟨gs, d2, da, O, hx, hy, hi, q⟩ := h
  obtain ⟨t, ty, tn, tt⟩ := knd_of (c := ct X) kd hy hi
  obtain ⟨a, C', dx, fs, rfl, ea, mc', _⟩ := hx.ins
  have eC : C' = C := by
    have z : X.mg cn = some (.ref C') := mc'
    rw [mc] at z
    cases z
    rfl
  subst eC
  obtain rfl : v = .ref a := rx
  obtain ⟨P, Z, p, _⟩ := kit_of I ry ty
  obtain ⟨mA, OM, _⟩ := ins_get I.hok ea
  obtain ⟨od, J, _⟩ := OM.look
  have hun := hr.un
  show wpAny _ _ (richCompare .NotEq (.ref a) u) _ _ s
  refine OE.ne_own (tb := t) (by omega) I.kIn J ⟨h1, h2, h3, h4⟩ (Z.ty _ _ I.kIn p) (by rw [tn]) ?_
  refine wpAny_mono (run_any (us := [.ref a, u]) (vs := [.ref a, y]) FO hr.in1 I.env0.in1 hb I (.cons rfl (.cons ry .nil)) q) (fun w s' z => ?_) fun _ _ x => x
  obtain ⟨z', H', I', rz, b, rfl, qz⟩ := z
  have e : w = .bool b := rz
  subst e
  exact ⟨b, rfl, .bl (!b), H', I', rfl, qz⟩
end
end FD

end sec_FD9
section sec_FD10
set_option maxRecDepth 100000
set_option maxHeartbeats 5000000
/-! FD10: operators, subscripts, slices, built-in functions by plain data. -/
namespace FD
open PySem L2
variable [Tabl]

/-! ### comparisons of data -/
mutual
def toPy : D → Option PyData
  | .non => some .none
  | .bl b => some (.bool b)
  | .int i => some (.int i)
  | .str x => some (.str x)
  | .tup ds => (toPys ds).map .tuple
  | .ktup ds => (toPys ds).map .tuple
  | .lst ds => (toPys ds).map .list
  | _ => none
def toPys : List D → Option (List PyData)
  | [] => some []
  | d :: r => match toPy d with
    | some p => (toPys r).map (p :: ·)
    | none => none
end
section
variable {c : Ct} {da : DA} {G H : Hp}
mutual
theorem Rep.dp (x : Ex G H) : ∀ {v : V} {d : D} {p : PyData}, Rep c da G v d → toPy d = some p → Dp c.K H v p
  | _, _, _, .non, e => by cases e; exact .non
  | _, _, _, .bl b, e => by cases e; exact .bl b
  | _, _, _, .int i, e => by cases e; exact .int i
  | _, _, _, .str y, e => by cases e; exact .str y
  | _, _, _, .ty n, e => by cases e
  | _, _, _, .draw h, e => by cases e
  | _, _, _, .obj h, e => by cases e
  | _, _, _, .tok h, e => by cases e
  | _, .tup ds, _, .tup s r, e => by
    simp only [toPy] at e
    cases q : toPys ds with
    | none =>
      rw [q] at e
      cases e
    | some ps =>
      rw [q] at e
      cases e
      exact .tup (.inl (.inl (x _ _ s))) (RepAll.dp x r q)
  | _, .ktup ds, _, .ktup s r, e => by
    simp only [toPy] at e
    cases q : toPys ds with
    | none =>
      rw [q] at e
      cases e
    | some ps =>
      rw [q] at e
      cases e
      exact .tup (x.st s) (RepAll.dp x r q)
  | _, .lst ds, _, .lst s r, e => by
    simp only [toPy] at e
    cases q : toPys ds with
    | none =>
      rw [q] at e
      cases e
    | some ps =>
      rw [q] at e
      cases e
      exact .lst (.inl (.inl (x _ _ s))) (RepAll.dp x r q)
  | _, _, _, .scr s, e => by cases e
  | _, _, _, .dK s r, e => by cases e
  | _, _, _, .dT s r, e => by cases e
  | _, _, _, .fdT s r, e => by cases e
  | _, _, _, .exc s s2 m r, e => by cases e
  | _, _, _, .exo s m, e => by cases e
  | _, _, _, .exn s m, e => by cases e
  | _, _, _, .ins s m r, e => by cases e
  | _, .lam i ds, _, .lam t s s2 k r, e => by
    simp only [toPy] at e
    cases e
theorem RepAll.dp (x : Ex G H) : ∀ {vs : List V} {ds : List D} {ps : List PyData}, RepAll c da G vs ds → toPys ds = some ps → DpAll c.K H vs ps
  | _, _, _, .nil, e => by
    simp only [toPys] at e
    cases e
    exact .nil
  | _, d :: ds, _, .cons h r, e => by
    simp only [toPys] at e
    cases q : toPy d with
    | none =>
      rw [q] at e
      cases e
    | some p =>
      rw [q] at e
      dsimp only at e
      cases q2 : toPys ds with
      | none =>
        rw [q2] at e
        cases e
      | some ps =>
        rw [q2] at e
        cases e
        exact .cons (Rep.dp x h q) (RepAll.dp x r q2)
end
theorem RepP.dp {O : List Addr} {v : V} {d : D} {p : PyData} (h : RepP c da O H v d) (e : toPy d = some p) : Dp c.K H v p := by
  rcases h with h | ⟨a, o, rfl, ha, ob⟩
  · exact h.dp vis_ex e
  · rcases ob with ⟨xs, ds, rfl, rfl, r⟩ | ⟨_, _, _, rfl, _⟩ | ⟨_, _, _, rfl, _⟩ | ⟨_, _, _, _, _, _, rfl, _⟩
    · simp only [toPy] at e
      cases q : toPys ds with
      | none =>
        rw [q] at e
        cases e
      | some ps =>
        rw [q] at e
        cases e
        exact .lst (.inl (.inl ha)) (r.dp vis_ex q)
    · cases e
    · cases e
    · cases e
end
def cmpD (d1 d2 : D) : Option Bool := match toPy d1 with
  | some p => (match toPy d2 with
    | some q => if SeqAt.shaped p = true ∧ SeqAt.shaped q = true then some (PyData.eqv p q) else none
    | none => none)
  | none => none
def eqD (d1 d2 : D) : Option RV := (cmpD d1 d2).map fun b => .sh (.bl b)
def neD (d1 d2 : D) : Option RV := (cmpD d1 d2).map fun b => .sh (.bl (!b))
theorem cmpD_some {d1 d2 : D} {b : Bool} (h : cmpD d1 d2 = some b) : ∃ p q, toPy d1 = some p ∧ toPy d2 = some q ∧ SeqAt.shaped p = true ∧ SeqAt.shaped q = true ∧ b = PyData.eqv p q := by
  unfold cmpD at h
  split at h
  · rename_i p e1
    split at h
    · rename_i q e2
      split at h
      · rename_i hs
        cases h
        exact ⟨p, q, e1, e2, hs.1, hs.2, rfl⟩
      · cases h
    · cases h
  · cases h
section
variable {X : Cx}
theorem opD_eq {k : Nat} (hr : Room k X.A) : OpR X (compareOp .Eq) (rP2 (ct X) eqD) := by
  intro pins s σ H x y v u Q I rx ry h
  obtain ⟨da, O, d1, d2, r, hO, h1, h2, eg, q⟩ := h
  cases e : cmpD d1 d2 with
  | none =>
    unfold eqD at eg
    rw [e] at eg
    cases eg
  | some b =>
    unfold eqD at eg
    rw [e] at eg
    cases eg
    obtain ⟨p, p', e1, e2, s1, s2, rfl⟩ := cmpD_some e
    exact op_eqD hr.units pins s σ H x y v u Q I rx ry ⟨p, p', h1.dp e1, h2.dp e2, s1, s2, q _ _ (Ex.refl _) (.bl _)⟩
theorem opD_ne {k : Nat} (hr : Room k X.A) : OpR X (compareOp .NotEq) (rP2 (ct X) neD) := by
  intro pins s σ H x y v u Q I rx ry h
  obtain ⟨da, O, d1, d2, r, hO, h1, h2, eg, q⟩ := h
  cases e : cmpD d1 d2 with
  | none =>
    unfold neD at eg
    rw [e] at eg
    cases eg
  | some b =>
    unfold neD at eg
    rw [e] at eg
    cases eg
    obtain ⟨p, p', e1, e2, s1, s2, rfl⟩ := cmpD_some e
    exact op_neD hr.units pins s σ H x y v u Q I rx ry ⟨p, p', h1.dp e1, h2.dp e2, s1, s2, q _ _ (Ex.refl _) (.bl _)⟩
def ordD (f : Int → Int → Bool) (g : Str → Str → Bool) : D → D → Option RV
  | .int i, .int j => some (.sh (.bl (f i j)))
  | .str x, .str y => some (.sh (.bl (g x y)))
  | _, _ => none
theorem opD_ord {op : CmpOp} {f : Int → Int → Bool} {g : Str → Str → Bool} (h1 : OpR X (compareOp op) (rI0 fun i j => .bl (f i j))) (h2 : OpR X (compareOp op) (fun x y H Q => ∃ i j, x = .str i ∧ y = .str j ∧ Q (.bl (g i j)) H)) : OpR X (compareOp op) (rP2 (ct X) (ordD f g)) := by
  intro pins s σ H x y v u Q I rx ry h
  obtain ⟨da, O, d1, d2, r, hO, p1, p2, eg, q⟩ := h
  unfold ordD at eg
  split at eg
  · cases eg
    exact h1 pins s σ H x y v u Q I rx ry ⟨_, _, p1.int, p2.int, q _ _ (Ex.refl _) (.bl _)⟩
  · cases eg
    exact h2 pins s σ H x y v u Q I rx ry ⟨_, _, p1.str, p2.str, q _ _ (Ex.refl _) (.bl _)⟩
  · cases eg
def ltS (x y : Str) : Bool := decide (x.cps.toList < y.cps.toList)
theorem opD_lt : OpR X (compareOp .Lt) (rP2 (ct X) (ordD (fun i j => decide (i < j)) ltS)) := opD_ord op_lt op_lt_str
/-- ints alone -/
def intD (f : Int → Int → Option RV) : D → D → Option RV
  | .int i, .int j => f i j
  | _, _ => none
theorem opD_int {opf : Value → Value → Sem Value} {C : Int → Int → Prop} {g : Int → Int → V} {f : Int → Int → Option RV} (h1 : OpR X opf (rI C g)) (hf : ∀ i j r, f i j = some r → C i j ∧ ∃ d, r = .sh d ∧ ∀ c da G, Rep c da G (g i j) d) : OpR X opf (rP2 (ct X) (intD f)) := by
  intro pins s σ H x y v u Q I rx ry h
  obtain ⟨da, O, d1, d2, r, hO, p1, p2, eg, q⟩ := h
  unfold intD at eg
  split at eg
  · obtain ⟨hc, d, rfl, rd⟩ := hf _ _ _ eg
    exact h1 pins s σ H x y v u Q I rx ry ⟨_, _, p1.int, p2.int, hc, q _ _ (Ex.refl _) (rd _ _ _)⟩
  · cases eg
theorem rI_of0 {opf : Value → Value → Sem Value} {g : Int → Int → V} (h : OpR X opf (rI0 g)) : OpR X opf (rI (fun _ _ => True) g) := by
  intro pins s σ H x y v u Q I rx ry ⟨i, j, h1, h2, _, q⟩
  exact h pins s σ H x y v u Q I rx ry ⟨i, j, h1, h2, q⟩
def i0 (f : Int → Int → D) (i j : Int) : Option RV := some (.sh (f i j))
theorem opD_gt : OpR X (compareOp .Gt) (rP2 (ct X) (intD (i0 fun i j => .bl (decide (j < i))))) := opD_int (rI_of0 op_gt) fun i j r e => by cases e; exact ⟨trivial, _, rfl, fun _ _ _ => .bl _⟩
theorem opD_ge : OpR X (compareOp .GtE) (rP2 (ct X) (intD (i0 fun i j => .bl (decide (j ≤ i))))) := opD_int (rI_of0 op_ge) fun i j r e => by cases e; exact ⟨trivial, _, rfl, fun _ _ _ => .bl _⟩
theorem opD_sub : OpR X (binaryOp .Sub) (rP2 (ct X) (intD (i0 fun i j => .int (i - j)))) := opD_int (rI_of0 op_sub) fun i j r e => by cases e; exact ⟨trivial, _, rfl, fun _ _ _ => .int _⟩
def modI (i j : Int) : Option RV := if 0 < j then some (.sh (.int (i % j))) else none
theorem opD_mod : OpR X (binaryOp .Mod) (rP2 (ct X) (intD modI)) := opD_int op_mod fun i j r e => by
  unfold modI at e
  split at e
  · rename_i h
    cases e
    exact ⟨h, _, rfl, fun _ _ _ => .int _⟩
  · cases e
def fdivI (i j : Int) : Option RV := if 0 < j ∧ j.natAbs.log2 < 9000 then some (.sh (.int (i / j))) else none
theorem opD_fdiv : OpR X (binaryOp .FloorDiv) (rP2 (ct X) (intD fdivI)) := opD_int op_fdivW fun i j r e => by
  unfold fdivI at e
  split at e
  · rename_i h
    cases e
    exact ⟨h, _, rfl, fun _ _ _ => .int _⟩
  · cases e
/-- one sign in a text -/
def inS (no : Bool) : D → D → Option RV
  | .str x, .str y => match x.cps.toList with
    | [c] => some (.sh (.bl (if no then !decide (c ∈ y.cps.toList) else decide (c ∈ y.cps.toList))))
    | _ => none
  | _, _ => none
theorem sing_of {x : Str} {c : Nat} (h : x.cps.toList = [c]) : x = ⟨#[c]⟩ := by
  obtain ⟨a⟩ := x
  have e : a = #[c] := by
    apply Array.ext'
    rw [h]
  rw [e]
theorem opD_in : OpR X (compareOp .In) (rP2 (ct X) (inS false)) := by
  intro pins s σ H x y v u Q I rx ry h
  obtain ⟨da, O, d1, d2, r, hO, p1, p2, eg, q⟩ := h
  unfold inS at eg
  split at eg
  · split at eg
    · rename_i c e
      cases eg
      exact op_in_sign pins s σ H x y v u Q I rx ry ⟨c, _, by rw [p1.str, sing_of e], p2.str, q _ _ (Ex.refl _) (.bl _)⟩
    · cases eg
  · cases eg
theorem opD_notIn : OpR X (compareOp .NotIn) (rP2 (ct X) (inS true)) := by
  intro pins s σ H x y v u Q I rx ry h
  obtain ⟨da, O, d1, d2, r, hO, p1, p2, eg, q⟩ := h
  unfold inS at eg
  split at eg
  · split at eg
    · rename_i c e
      cases eg
      exact op_notIn_sign pins s σ H x y v u Q I rx ry ⟨c, _, by rw [p1.str, sing_of e], p2.str, q _ _ (Ex.refl _) (.bl _)⟩
    · cases eg
  · cases eg

/-! ### + -/
def addD : D → D → Option RV
  | .int i, .int j => some (.sh (.int (i + j)))
  | .str x, .str y => if x.length + y.length ≤ 1000000 then some (.sh (.str (x ++ y))) else none
  | .lst xs, .lst ys => if xs.length + ys.length ≤ 1000000 then some (.fr (.lst (xs ++ ys))) else none
  | .tup xs, .tup ys => if xs.length + ys.length ≤ 1000000 then some (.sh (.tup (xs ++ ys))) else none
  | _, _ => none
theorem repN_lst {c : Ct} {da : DA} {O : List Addr} {H : Hp} {p : Addr} {xs : List V} {ds : List D} (np : H p = none) (r : RepAll c da (vis O H) xs ds) : RepN c da O H (upd H p (.lst xs)) (.fr (.lst ds)) (.ref p) := by
  refine ⟨p, _, rfl, np, upd_same, .inl ⟨xs, ds, rfl, rfl, r.mono fun b o h => ?_⟩⟩
  obtain ⟨n, h⟩ := vis_some h
  rw [vis_out fun z => ?_]
  · exact Ex.new np b o h
  · rcases List.mem_cons.mp z with z | z
    · exact ne_of_none h np z
    · exact n z
/-- a place of which nothing is known may be hidden: a new tuple is laid where H is free -/
theorem repN_tup {c : Ct} {da : DA} {O : List Addr} {H : Hp} {p : Addr} {xs : List V} {ds : List D} (np : H p = none) (hO : ∀ a ∈ O, ∃ o, H a = some o ∧ NT o) (r : RepAll c da (vis O H) xs ds) : RepN c da O H (upd H p (.tup xs)) (.sh (.tup ds)) (.ref p) := by
  have n : p ∉ O := fun z => by
    obtain ⟨o, e, _⟩ := hO p z
    rw [np] at e
    cases e
  refine .tup ?_ (r.mono (vis_mono (Ex.new np)))
  rw [vis_out n]
  exact upd_same
theorem opD_add : OpR X (binaryOp .Add) (rP2 (ct X) addD) := by
  intro pins s σ H x y v u Q I rx ry h
  obtain ⟨da, O, d1, d2, r, hO, p1, p2, eg, q⟩ := h
  unfold addD at eg
  split at eg
  · cases eg
    exact op_add pins s σ H x y v u Q I rx ry ⟨_, _, p1.int, p2.int, q _ _ (Ex.refl _) (.int _)⟩
  · split at eg
    · rename_i hz
      cases eg
      exact op_add_str pins s σ H x y v u Q I rx ry ⟨_, _, p1.str, p2.str, small_fits hz, q _ _ (Ex.refl _) (.str _)⟩
    · cases eg
  · split at eg
    · rename_i hz
      cases eg
      obtain ⟨a, xs, rfl, ea, ra⟩ := p1.lst
      obtain ⟨b, ys, rfl, eb, rb⟩ := p2.lst
      exact op_cat pins s σ H _ _ v u Q I rx ry ⟨a, b, xs, ys, rfl, rfl, ea, eb, small_fits (by rw [ra.length, rb.length]; exact hz), fun p np => q _ _ (Ex.new np) (repN_lst np (ra.append rb))⟩
    · cases eg
  · split at eg
    · rename_i hz
      cases eg
      obtain ⟨a, xs, rfl, ea, ra, Ra⟩ := p1.tup
      obtain ⟨b, ys, rfl, eb, rb, Rb⟩ := p2.tup
      refine op_catA pins s σ H _ _ v u Q I rx ry ⟨a, b, xs, ys, rfl, rfl, ea, eb, small_fits (by rw [ra.length, rb.length]; exact hz), fun e => ?_, fun _ e => ?_, fun _ _ p np => q _ _ (Ex.new np) (repN_tup np hO (ra.append rb))⟩
      · subst e
        cases ra
        exact q _ _ (Ex.refl _) Rb
      · subst e
        cases rb
        rw [List.append_nil] at q
        exact q _ _ (Ex.refl _) Ra
    · cases eg
  · cases eg

/-! ### * -/
def mulD : D → D → Option RV
  | .int i, .int j => if i.natAbs.log2 + j.natAbs.log2 < 1000000 then some (.sh (.int (i * j))) else none
  | .str x, .int n => if n = 0 then some (.sh (.str Str.empty)) else if n = 1 then some (.sh (.str x)) else none
  | _, _ => none
theorem opD_mul : OpR X (binaryOp .Mult) (rP2 (ct X) mulD) := by
  intro pins s σ H x y v u Q I rx ry h
  obtain ⟨da, O, d1, d2, r, hO, p1, p2, eg, q⟩ := h
  unfold mulD at eg
  split at eg
  · split at eg
    · rename_i hc
      cases eg
      exact op_mulW pins s σ H x y v u Q I rx ry ⟨_, _, p1.int, p2.int, hc, q _ _ (Ex.refl _) (.int _)⟩
    · cases eg
  · rename_i x0 n
    have ex := p1.str
    have ey := p2.int
    subst ex
    subst ey
    obtain ⟨t, rfl⟩ := rx
    obtain ⟨t2, rfl⟩ := ry
    split at eg
    · rename_i hn
      cases eg
      subst hn
      exact PySem.P.mul_str_none (by decide) (by decide) ⟨.str Str.empty, H, I.tok _, ⟨_, rfl⟩, q _ _ (Ex.refl _) (.str _)⟩
    · split at eg
      · rename_i hn
        cases eg
        subst hn
        refine PySem.P.mul_str (by decide) (fun _ h => by simp at h) (fun _ h => by simp at h) ?_
        rw [if_neg (by decide), if_pos (by simp)]
        exact ⟨.str x0, H, I, ⟨_, rfl⟩, q _ _ (Ex.refl _) (.str _)⟩
      · cases eg
  · cases eg

/-! ### subscripts -/
def ixD : D → D → Option RV
  | .lst xs, .int i => (atI xs i).map .sh
  | .tup xs, .int i => (atI xs i).map .sh
  | .ktup xs, .int i => (atI xs i).map .sh
  | .str z, .int i => if z.length ≤ 1000000 then (atI z.cps.toList i).map fun c => .sh (.str ⟨#[c]⟩) else none
  | _, _ => none
theorem RepAll.atI {c : Ct} {da : DA} {G : Hp} {vs : List V} {ds : List D} {i : Int} {d : D} (r : RepAll c da G vs ds) (h : L2.atI ds i = some d) : ∃ v, L2.atI vs i = some v ∧ Rep c da G v d := by
  unfold L2.atI at h ⊢
  rw [r.length]
  cases e : ixN ds.length i with
  | none =>
    rw [e] at h
    cases h
  | some j =>
    rw [e] at h
    exact r.get h
theorem ixD_ok : IxR X (rP2 (ct X) ixD) := by
  intro value slice pins s σ H x y v u Q I rx ry h hs
  obtain ⟨da, O, d1, d2, r, hO, p1, p2, eg, q⟩ := h
  unfold ixD at eg
  split at eg
  · rename_i xs i
    cases e : L2.atI xs i with
    | none =>
      rw [e] at eg
      cases eg
    | some d =>
      rw [e] at eg
      cases eg
      obtain ⟨a, ys, rfl, ea, ra⟩ := p1.lst
      obtain ⟨z, hz, rz⟩ := ra.atI e
      exact ix_list value slice pins s σ H _ _ v u Q I rx ry ⟨a, ys, i, z, rfl, p2.int, .inl (.inl ea), hz, q _ _ (Ex.refl _) rz⟩ hs
  · rename_i xs i
    cases e : L2.atI xs i with
    | none =>
      rw [e] at eg
      cases eg
    | some d =>
      rw [e] at eg
      cases eg
      obtain ⟨a, ys, rfl, ea, ra, _⟩ := p1.tup
      obtain ⟨z, hz, rz⟩ := ra.atI e
      exact ix_tup value slice pins s σ H _ _ v u Q I rx ry ⟨a, ys, i, z, rfl, p2.int, ea, hz, q _ _ (Ex.refl _) rz⟩ hs
  · rename_i xs i
    cases e : L2.atI xs i with
    | none =>
      rw [e] at eg
      cases eg
    | some d =>
      rw [e] at eg
      cases eg
      obtain ⟨a, ys, rfl, ea, ra, _⟩ := p1.ktup
      obtain ⟨z, hz, rz⟩ := ra.atI e
      exact ix_tup value slice pins s σ H _ _ v u Q I rx ry ⟨a, ys, i, z, rfl, p2.int, ea, hz, q _ _ (Ex.refl _) rz⟩ hs
  · rename_i z i
    split at eg
    · rename_i hz
      cases e : L2.atI z.cps.toList i with
      | none =>
        rw [e] at eg
        cases eg
      | some d =>
        rw [e] at eg
        cases eg
        exact ix_str value slice pins s σ H _ _ v u Q I rx ry ⟨z, i, d, p1.str, p2.int, small_fits hz, e, q _ _ (Ex.refl _) (.str _)⟩ hs
    · cases eg
  · cases eg
end
end FD

end sec_FD10
section sec_ZP
set_option maxRecDepth 100000
set_option maxHeartbeats 5000000
/-! ZP: zip of two and of three, each a list, a tuple or a text. -/
namespace ZP
open PySem PySem.Spec PyProof.Rows L2

/-- what zip draws from -/
inductive Src where
  | lst (a : Addr) | tup (a : Addr) | txt (x : Str)
def Src.has (K : PySem.W.Frag) (H : Hp) : Src → List V → Prop
  | .lst a, xs => SqL K H a xs
  | .tup a, xs => SqT K H a xs
  | .txt x, xs => xs = x.cps.toList.map fun c => V.str ⟨#[c]⟩
def Src.at_ : Src → Addr → Nat → Heap → Prop
  | .lst a, it, i, h => h.IsListIter it a i
  | .tup a, it, i, h => h.IsTupleIter it a i
  | .txt x, it, i, h => ∃ t, h.IsStrIter it (strIterType x) x t i
def Src.far : Src → Addr → Prop
  | .lst a, b => a ≠ b
  | .tup a, b => a ≠ b
  | .txt _, _ => True
theorem Src.inj {X : Cx} {pins : List (Addr × Obj)} {σ : L2.St} {H : Hp} {s : Shared} (I : Inv X pins σ H s) : ∀ {r : Src} {xs ys : List V}, r.has X.K H xs → r.has X.K H ys → xs = ys
  | .lst _, _, _, h, k => I.list_inj h k
  | .tup _, _, _, h, k => I.tuple_inj h k
  | .txt _, _, _, h, k => h.trans k.symm
theorem noCell {h : Heap} {it : Addr} {o : Obj} {vs : Array Value} (e : h.get? it = some o) (d : o.data = .fields vs) : ∃ o, h.get? it = some o ∧ ∀ v, o.data ≠ .cell v := ⟨o, e, by simp [d]⟩
theorem Src.live {r : Src} {it : Addr} {i : Nat} {h : Heap} (q : r.at_ it i h) : ∃ o, h.get? it = some o ∧ ∀ v, o.data ≠ .cell v := by
  cases r with
  | lst a =>
    obtain ⟨_, e, _, d⟩ := q
    exact noCell e d
  | tup a =>
    obtain ⟨_, e, _, d⟩ := q
    exact noCell e d
  | txt x =>
    obtain ⟨_, _, e, _, d⟩ := q
    exact noCell e d
theorem Src.keep {r : Src} {it : Addr} {i : Nat} {h h' : Heap} (q : r.at_ it i h) (k : ∀ o, h.get? it = some o → h'.get? it = some o) : r.at_ it i h' := by
  cases r with
  | lst a => exact Heap.IsListIter.at q k
  | tup a => exact Heap.IsTupleIter.at q k
  | txt x =>
    obtain ⟨t, o, e, r⟩ := q
    exact ⟨t, o, k o e, r⟩
theorem vals_at : ∀ {xs : List V} {us : List Value}, Vals xs us → ∀ {j : Nat} {u : Value}, us[j]? = some u → ∃ x, xs[j]? = some x ∧ RelV x u
  | _, _, .nil, _, _, h => by simp at h
  | _, _, .cons r t, 0, _, h => ⟨_, rfl, by cases h; exact r⟩
  | _, _, .cons r t, j + 1, _, h => by
    obtain ⟨x, e, k⟩ := vals_at t (j := j) (by simpa using h)
    exact ⟨x, by simpa using e, k⟩
/-- such an iterator draws the items -/
theorem Src.draws {X : Cx} {pins : List (Addr × Obj)} {σ : L2.St} {H : Hp} {s : Shared} (hc : X.calm = true) (I : Inv X pins σ H s) {r : Src} {xs : List V} {it : Addr} {i : Nat} (hx : r.has X.K H xs) (q : r.at_ it i s.heap) (far : r.far it) :
    ∃ fp P St, Draws X.prog X.w X.A.in1 it fp xs.length P St ∧ St i s.heap ∧ it ∈ fp ∧ (∀ b, r.far b → b ≠ it → b ∉ fp) ∧ (∀ j v, P j v → ∃ x, xs[j]? = some x ∧ RelV x v) ∧ ∀ j h, St j h → r.at_ it j h := by
  cases r with
  | lst a =>
    obtain ⟨its, rv, p, _⟩ := I.list hx
    have hl := rv.length
    refine ⟨[it, a], fun i v => its.toArray[i]? = some v, fun i h => h.IsListIter it a i ∧ h.IsList a its.toArray, by rw [hl]; exact Draws.list (prog := X.prog) (w := X.w) (A := X.A.in1) (I.ok.hd hc) it a far its.toArray, (show _ ∧ _ from ⟨q, p.isList⟩), by simp, fun b fb nb => ?_, fun j v hv => ?_, fun j h st => st.1⟩
    · simp only [List.mem_cons, List.not_mem_nil, or_false]
      exact fun z => z.elim nb fun y => fb y.symm
    · exact vals_at rv (by simpa using hv)
  | tup a =>
    obtain ⟨its, rv, p, _⟩ := I.tuple hx
    have hl := rv.length
    refine ⟨[it, a], fun i v => its.toArray[i]? = some v, fun i h => h.IsTupleIter it a i ∧ h.IsTuple a its.toArray, by rw [hl]; exact Draws.tuple (prog := X.prog) (w := X.w) (A := X.A.in1) (I.ok.hd hc) it a far its.toArray, (show _ ∧ _ from ⟨q, p⟩), by simp, fun b fb nb => ?_, fun j v hv => ?_, fun j h st => st.1⟩
    · simp only [List.mem_cons, List.not_mem_nil, or_false]
      exact fun z => z.elim nb fun y => fb y.symm
    · exact vals_at rv (by simpa using hv)
  | txt x =>
    obtain ⟨t, q⟩ := q
    have hx : xs = x.cps.toList.map fun c => V.str ⟨#[c]⟩ := hx
    have hl : xs.length = x.cps.size := by rw [hx]; simp
    refine ⟨[it], _, _, by rw [hl]; exact Draws.text (prog := X.prog) (w := X.w) (A := X.A.in1) (I.ok.hd hc) it x t, q, by simp, fun b _ nb => by simpa using nb, fun j v hv => ?_, fun j h st => ⟨t, st⟩⟩
    obtain ⟨c, u, hcu, rfl⟩ := hv
    refine ⟨.str ⟨#[c]⟩, ?_, ⟨u, rfl⟩⟩
    rw [hx, List.getElem?_map]
    have : x.cps.toList[j]? = some c := by simpa using hcu
    rw [this]
    rfl
/-- its cells lie apart -/
structure Ap2 (z TI TO i1 i2 : Addr) (r1 r2 : Src) : Prop where
  a1 : TI ≠ z
  a2 : TO ≠ z
  a3 : TI ≠ TO
  a4 : TI ≠ i1
  a5 : TI ≠ i2
  a6 : z ≠ i1
  a7 : z ≠ i2
  a8 : TO ≠ i1
  a9 : TO ≠ i2
  b1 : i1 ≠ i2
  f1 : r1.far z ∧ r1.far TO ∧ r1.far i1 ∧ r1.far i2
  f2 : r2.far z ∧ r2.far TO ∧ r2.far i1 ∧ r2.far i2
/-! ### zip of three -/
structure Ap3 (z TI TO i1 i2 i3 : Addr) (r1 r2 r3 : Src) : Prop where
  a1 : TI ≠ z
  a2 : TO ≠ z
  a3 : TI ≠ TO
  t1 : TI ≠ i1
  t2 : TI ≠ i2
  t3 : TI ≠ i3
  z1 : z ≠ i1
  z2 : z ≠ i2
  z3 : z ≠ i3
  o1 : TO ≠ i1
  o2 : TO ≠ i2
  o3 : TO ≠ i3
  b12 : i1 ≠ i2
  b13 : i1 ≠ i3
  b23 : i2 ≠ i3
  f1 : r1.far z ∧ r1.far TO ∧ r1.far i1 ∧ r1.far i2 ∧ r1.far i3
  f2 : r2.far z ∧ r2.far TO ∧ r2.far i1 ∧ r2.far i2 ∧ r2.far i3
  f3 : r3.far z ∧ r3.far TO ∧ r3.far i1 ∧ r3.far i2 ∧ r3.far i3
/-! ### how they begin -/
def Src.of : Src → V → Prop
  | .lst a, v => v = .ref a
  | .tup a, v => v = .ref a
  | .txt x, v => v = .str x
theorem Src.begins {X : Cx} {pins : List (Addr × Obj)} {σ : L2.St} {H : Hp} {s : Shared} (I : Inv X pins σ H s) {r : Src} {xs : List V} {v : V} {u : Value} (hv : r.of v) (hx : r.has X.K H xs) (ru : RelV v u) :
    ∃ (o : Obj) (T : Heap → Prop), Begins u o T ∧ T s.heap ∧ (∀ b, s.heap.objs.size ≤ b → r.far b) ∧ ∀ it h, h.get? it = some o → r.at_ it 0 h := by
  cases r with
  | lst a =>
    have hv : v = .ref a := hv
    subst hv
    cases ru
    obtain ⟨its, rv, p, _⟩ := I.list hx
    exact ⟨_, _, begins_list a its.toArray, p.isList, fun b hb z => Nat.lt_irrefl _ (Nat.lt_of_lt_of_le (z ▸ p.lt) hb), fun it h e => ⟨_, e, rfl, rfl⟩⟩
  | tup a =>
    have hv : v = .ref a := hv
    subst hv
    cases ru
    obtain ⟨its, rv, p, _⟩ := I.tuple hx
    obtain ⟨o, ho, _⟩ := id p
    have := Heap.lt_size ho
    exact ⟨_, _, begins_tuple a its.toArray, p, fun b hb z => Nat.lt_irrefl _ (Nat.lt_of_lt_of_le (z ▸ this) hb), fun it h e => ⟨_, e, rfl, rfl⟩⟩
  | txt x =>
    have hv : v = .str x := hv
    subst hv
    obtain ⟨t, rfl⟩ := ru
    exact ⟨_, _, begins_text x t, trivial, fun b hb => trivial, fun it h e => ⟨t, _, e, rfl, rfl⟩⟩
end ZP

end sec_ZP
section sec_EN
set_option maxRecDepth 100000
set_option maxHeartbeats 5000000
/-! EN: enumerate of any source of ZP. -/
namespace EN
open PySem PySem.Spec PyProof.Rows L2
open ZP (Src)
theorem mem_two {a b c : Addr} (h : c ∈ [a, b]) : c = a ∨ c = b := by simpa using h
/-- the counter as enumerate makes it, its iterator at n -/
abbrev numO (n : Addr) : Obj := { cls := .type "enumerate", data := .fields #[.none, .bool false, .ref n, rawInt 0, .none, .none] }
def newSpec (o : Obj) (T : Heap → Prop) : PySem.Spec := fun _ R s => T s.heap ∧ R (.ok (.ret (.ref (s.heap.push o).objs.size))) { s with heap := (s.heap.push o).push (numO s.heap.objs.size) }
theorem new_meets {v : Value} {o : Obj} {T : Heap → Prop} (B : Begins v o T) : Meets (Builtin.«enumerate.__new__» ⟨[.type "enumerate", v], []⟩) (newSpec o T) := .of_wp fun P w A R s hs => by
  rcases s with ⟨h, g, d, k, os⟩
  rcases hs with ⟨ready, out⟩
  have sub := sub_enumerate
  have it : ∀ {B' : Around} {E : Value → Shared → Prop} {Q : Value → Shared → Prop}, Q (.ref h.objs.size) ⟨h.push o, g, d, k, os⟩ → wpAny (model P w) B' (pyIter v) Q E ⟨h, g, d, k, os⟩ := B.iter P w _ _ ⟨h, g, d, k, os⟩ _ ready
  wp_walk using it
  apply wpAny_stack_any
  intro st
  apply wpAny_pure
  split
  next c _ _ _ _ _ =>
    cases hc : (c == Value.type "enumerate") <;> (wp_walk using it) <;> exact ⟨_, rfl, out⟩
  next => (wp_walk using it) <;> exact ⟨_, rfl, out⟩
/-- what stands there behind enumerate(v) -/
structure Made (h0 h : Heap) (o : Obj) : Prop where
  num : IsEnum h (h0.objs.size + 1) h0.objs.size 0 .none
  it : h.get? h0.objs.size = some o
  old : ∀ b u, h0.get? b = some u → h.get? b = some u
theorem make {P : Program} {w : World} {A : Around} {E : Value → Shared → Prop} {s : Shared} {v : Value} {o : Obj} {T : Heap → Prop} {Q : Value → Shared → Prop} (B : Begins v o T) (ready : T s.heap)
    (go : ∀ h, Made s.heap h o → Q (.ref (s.heap.objs.size + 1)) { s with heap := h }) : wpAny (model P w) A (call (.type "enumerate") [v]) Q E s := by
  apply callType_new PySem.F.called_enumerate (by decide) (PySem.F.typeCall_enumerate_1 _) (PySem.F.newCall_enumerate_1 _) (fun u => PySem.F.args_object_init_2 u _) PySem.F.entry_enumerate_new (new_meets B)
  refine ⟨ready, ?_⟩
  have sz := Heap.size_push s.heap o
  have top := Heap.get?_push_size (s.heap.push o) (o := numO s.heap.objs.size) rfl
  simp only [sz] at top ⊢
  exact ⟨⟨_, top, rfl⟩, go _ ⟨top, Heap.get?_push_of_some _ (Heap.get?_push_size _ B.free), fun b u e => Heap.get?_push_of_some _ (Heap.get?_push_of_some _ e)⟩⟩
/-- number and item at each turn -/
def Ien (K : PySem.W.Frag) (r : Src) : It where
  go := fun i H => ∃ (xs : List V) (x : V), r.has K H xs ∧ xs[i]? = some x
  yld := fun i H v H2 => ∃ T x, v = .ref T ∧ H T = none ∧ H2 = upd H T (.tup [.int (i : Nat), x]) ∧ ∀ xs, r.has K H xs → xs[i]? = some x
  stop := fun i H => ∃ xs : List V, r.has K H xs ∧ xs.length = i
theorem turn {P : Program} {w : World} {K : PySem.W.Frag} {elts : List Expr} {kk : Nat} {tpos : Pos} {r : Src} {n it : Addr} (ne : n ≠ it) (fn : r.far n) (fi : r.far it) :
    Turn P w K (.Tuple elts kk tpos) (Ien K r) [n, it] n (fun i h => (∃ last, IsEnum h n it ((i : Nat) : Int) last) ∧ r.at_ it i h) where
  mem := List.mem_cons_self
  obj := by
    rintro i h ⟨⟨last, hn⟩, hi⟩ b hb
    rcases mem_two hb with rfl | rfl
    · exact ⟨_, hn, by intro v q; cases q⟩
    · exact Src.live hi
  keep := by
    rintro i h h2 ⟨⟨last, hn⟩, hi⟩ k
    exact ⟨⟨last, k n (by simp) _ hn⟩, Src.keep hi (k it (by simp))⟩
  item := by
    rintro X rfl rfl rfl calm i pins s σ H E I hf ⟨⟨last, hn⟩, hi⟩ ⟨xs, x, hx, at_⟩
    obtain ⟨fp, Pd, St, D, st, mem, off, val, back⟩ := Src.draws calm I hx hi fi
    have ln : n < s.heap.objs.size := Heap.lt_size hn
    apply wpAny_pyNext_enum_itemD D hn st (List.getElem?_eq_some_iff.mp at_).1 ne (off n fn ne)
    intro u h1 k pu out st1 pair _ kept
    obtain ⟨x2, at2, ru⟩ := val i u pu
    obtain rfl : x = x2 := Option.some.inj (at_.symm.trans at2)
    refine ⟨_, rfl, wpAny_letOwnedTupleGo_enum (s := { s with heap := h1, toks := k + 1 }) out fun h2 hn2 sb => ?_⟩
    have fresh := I.hok.fresh (Nat.le_refl s.heap.objs.size)
    have made : ObjOk X.prog X.w (upd H s.heap.objs.size (.tup [.int (i : Nat), x])) h2 s.heap.objs.size (.tup [.int (i : Nat), x]) :=
      ⟨(by decide : 2 ≤ sizeLine), [.int i k, u], .cons ⟨k, rfl⟩ (.cons ru .nil), ⟨_, (sb.2 _ (Nat.ne_of_gt ln)).trans pair, rfl, _, rfl⟩⟩
    have I2 := I.turnedNew (ch := [n, it]) (t' := k + 1) (fun b o nb e => by
      have nb : b ≠ n ∧ b ≠ it := by simpa using nb
      exact (sb.2 b nb.1).trans (kept b o nb.1 nb.2 e)) hf (Nat.le_refl _) made
    refine ⟨.ref s.heap.objs.size, _, I2, rfl, ⟨_, x, rfl, fresh, rfl, ?_⟩, ⟨⟨u, hn2⟩, Src.keep (back _ _ st1) fun o e => (sb.2 it (Ne.symm ne)).trans e⟩, ?_⟩
    · intro ys hy
      rw [Src.inj I hy hx]
      exact at_
    · intro b hb
      have lb : b < s.heap.objs.size := by
        rcases mem_two hb with rfl | rfl
        · exact ln
        · obtain ⟨_, e, _⟩ := Src.live hi
          exact Heap.lt_size e
      exact (upd_ne (Nat.ne_of_lt lb)).trans (hf b hb).1
  done := by
    rintro X rfl rfl rfl calm i pins s σ H E I hf ⟨⟨last, hn⟩, hi⟩ ⟨xs, hx, rfl⟩
    obtain ⟨fp, Pd, St, D, st, _⟩ := Src.draws calm I hx hi fi
    apply wpAny_pyNext_enum_endD D hn st
    intro h1 ext
    exact ⟨rfl, I.turnedL (t' := s.toks) (ch := [n, it]) (fun b o nb e => ext b o (by intro z; exact nb (by simp [z])) e) hf⟩
  self := by
    rintro A i s Q E ⟨⟨_, hn⟩, _⟩ go
    exact wpAny_pyIter_enum hn go
def iEn (K : PySem.W.Frag) (ta : TE) : TI := fun σ H R => ta σ H fun v H1 => ∃ r xs, Src.of r v ∧ r.has K H1 xs ∧ R (Ien K r) H1
theorem pi_en {X : Cx} {e : Expr} {ta : TE} {p pos tpos : Pos} {elts : List Expr} {kk : Nat} (glob : Gl X "enumerate") (own : X.mg "enumerate" = none) (ha : PE X e ta) (ns : starEach [e] X.env = (false, eval e X.env) :: starEach [] X.env := by rfl) :
    PI X (.Tuple elts kk tpos) (.Call (.Name "enumerate" p) [e] [] pos) (iEn X.K ta) where
  run := by
    intro pins s σ H R I pre
    refine Call_ (ld_blt I glob own boot_enumerate ?_)
    refine PyProof.Rows.callWith_type1 (PyProof.Rows.args_cons (thn (ha.run pins s σ H _ I pre) ?_) ns) ns rfl
    rintro u s1 ⟨v, H1, I1, rv, r, xs, isr, has, post⟩
    refine PyProof.Rows.args_nil ?_
    obtain ⟨o, T, B, ready, far, start⟩ := Src.begins I1 isr has rv
    apply make B ready
    intro h m
    refine wpAny_pyIter_enum m.num ⟨s1.heap.objs.size + 1, [s1.heap.objs.size + 1, s1.heap.objs.size], _, _, H1, rfl, I1.kept (t' := s1.toks) m.old, turn (r := r) (Nat.succ_ne_self _) (far _ (Nat.le_succ _)) (far _ (Nat.le_refl _)), ⟨⟨.none, m.num⟩, start _ _ m.it⟩, ?_, post⟩
    intro b hb
    have : s1.heap.objs.size ≤ b := by
      rcases mem_two hb with rfl | rfl
      · exact Nat.le_succ _
      · exact Nat.le_refl _
    exact I1.fpOk this (I1.hok.fresh this)
end EN

end sec_EN
section sec_FD11
set_option maxRecDepth 100000
set_option maxHeartbeats 5000000
/-! FD11: built-in functions, slices, own ==, lists that a slot owns, enumerate, displays. -/
namespace FD
open PySem L2
variable [Tabl]
section
variable {X : Cx}
/-! ### built-in functions -/
def lenD : List D → Option RV
  | [.lst xs] => some (.sh (.int xs.length))
  | [.tup xs] => some (.sh (.int xs.length))
  | [.ktup xs] => some (.sh (.int xs.length))
  | [.str z] => if z.length ≤ 1000000 then some (.sh (.int z.length)) else none
  | [.scr ns] => some (.sh (.int ns.length))
  | _ => none
theorem AllP.one {c : Ct} {da : DA} {O : List Addr} {H : Hp} {vs : List V} {d : D} (h : AllP c da O H vs [d]) : ∃ v, vs = [v] ∧ RepP c da O H v d := by
  cases h with
  | cons a b =>
    cases b
    exact ⟨_, rfl, a⟩
theorem AllP.two {c : Ct} {da : DA} {O : List Addr} {H : Hp} {vs : List V} {d e : D} (h : AllP c da O H vs [d, e]) : ∃ v u, vs = [v, u] ∧ RepP c da O H v d ∧ RepP c da O H u e := by
  cases h with
  | cons a b =>
    obtain ⟨u, rfl, q⟩ := b.one
    exact ⟨_, _, rfl, a, q⟩
theorem bD_len : CallR X (.builtin "len") (rPure (ct X) lenD) := by
  intro pins s σ H xs us Q I r h
  obtain ⟨da, O, ds, rv, hO, p, eg, q⟩ := h
  unfold lenD at eg
  split at eg
  · cases eg
    obtain ⟨v, rfl, P⟩ := p.one
    obtain ⟨a, ys, rfl, ea, ra⟩ := P.lst
    have z := ra.length
    exact call_len_seq pins s σ H _ us Q I r ⟨a, ys, rfl, .inl (.inl (.inl ea)), q _ _ (Ex.refl _) (by rw [z]; exact .int _)⟩
  · cases eg
    obtain ⟨v, rfl, P⟩ := p.one
    obtain ⟨a, ys, rfl, ea, ra, _⟩ := P.tup
    have z := ra.length
    exact call_len_seq pins s σ H _ us Q I r ⟨a, ys, rfl, .inr ea, q _ _ (Ex.refl _) (by rw [z]; exact .int _)⟩
  · cases eg
    obtain ⟨v, rfl, P⟩ := p.one
    obtain ⟨a, ys, rfl, ea, ra, _⟩ := P.ktup
    have z := ra.length
    exact call_len_seq pins s σ H _ us Q I r ⟨a, ys, rfl, .inr ea, q _ _ (Ex.refl _) (by rw [z]; exact .int _)⟩
  · split at eg
    · rename_i hz
      cases eg
      obtain ⟨v, rfl, P⟩ := p.one
      obtain rfl := P.str
      exact call_len_str pins s σ H _ us Q I r ⟨_, rfl, small_fits hz, q _ _ (Ex.refl _) (.int _)⟩
    · cases eg
  · cases eg
    obtain ⟨v, rfl, P⟩ := p.one
    obtain ⟨a, rfl, ea⟩ := P.scr
    exact call_len_seq pins s σ H _ us Q I r ⟨a, _, rfl, .inl ea, q _ _ (Ex.refl _) (by rw [List.length_map]; exact .int _)⟩
  · cases eg
def minD : List D → Option RV
  | [.int i, .int j] => some (.sh (.int (if j < i then j else i)))
  | _ => none
theorem bD_min (hc : X.calm = true) : CallR X (.builtin "min") (rPure (ct X) minD) := by
  intro pins s σ H xs us Q I r h
  obtain ⟨da, O, ds, rv, hO, p, eg, q⟩ := h
  unfold minD at eg
  split at eg
  · cases eg
    obtain ⟨v, u, rfl, p1, p2⟩ := p.two
    obtain rfl := p1.int
    obtain rfl := p2.int
    exact call_min2 hc pins s σ H _ us Q I r ⟨_, _, rfl, q _ _ (Ex.refl _) (.int _)⟩
  · cases eg
def intFD : List D → Option RV
  | [.int i] => some (.sh (.int i))
  | [.bl b] => some (.sh (.int (if b then 1 else 0)))
  | _ => none
theorem bD_int : CallR X (.type "int") (rPure (ct X) intFD) := by
  intro pins s σ H xs us Q I r h
  obtain ⟨da, O, ds, rv, hO, p, eg, q⟩ := h
  unfold intFD at eg
  split at eg
  · cases eg
    obtain ⟨v, rfl, P⟩ := p.one
    obtain rfl := P.int
    exact call_int1 pins s σ H _ us Q I r (.inl ⟨_, rfl, q _ _ (Ex.refl _) (.int _)⟩)
  · cases eg
    obtain ⟨v, rfl, P⟩ := p.one
    obtain rfl := P.bl
    exact call_int1 pins s σ H _ us Q I r (.inr ⟨_, rfl, q _ _ (Ex.refl _) (.int _)⟩)
  · cases eg
def signsD (z : Str) : List D := z.cps.toList.map fun c => .str ⟨#[c]⟩
def listD : List D → Option RV
  | [.lst xs] => some (.fr (.lst xs))
  | [.tup xs] => some (.fr (.lst xs))
  | [.str z] => if z.cps.size ≤ 1000000 then some (.fr (.lst (signsD z))) else none
  | _ => none
theorem call_listStr (hc : X.calm = true) : CallR X (.type "list") (fun xs H Q => ∃ z, xs = [.str z] ∧ z.cps.size ≤ sizeLine ∧ ∀ l, H l = none → Q (.ref l) (upd H l (.lst (z.cps.toList.map fun c => V.str ⟨#[c]⟩)))) := by
  intro pins s σ H xs us Q I r h
  obtain ⟨z, rfl, hz, q⟩ := h
  obtain ⟨u, rfl, t, rfl⟩ := vals1 r
  refine call_list_str (I.ok.hd hc) z t (fun h' tk acc c hk ha hi => ?_) hz
  have hn := I.hok.fresh (Nat.le_refl s.heap.objs.size)
  have hv : ∀ (cs : List Nat) (vs : List Value), vs.length = cs.length → (∀ (i : Nat) (v : Value), vs[i]? = some v → ∃ c u, cs[i]? = some c ∧ v = Value.str ⟨#[c]⟩ u) → Vals (cs.map fun c => V.str ⟨#[c]⟩) vs := by
    intro cs
    induction cs with
    | nil =>
      intro vs hl _
      rw [List.length_eq_zero_iff.mp hl]
      exact .nil
    | cons c cs ih =>
      intro vs hl hP
      cases vs with
      | nil => cases hl
      | cons v vs =>
        obtain ⟨c', u, e1, e2⟩ := hP 0 v rfl
        cases e1
        subst e2
        exact .cons ⟨u, rfl⟩ (ih vs (by simpa using hl) fun i w hw => by
          obtain ⟨c, u, a, b⟩ := hP (i + 1) w (by simpa using hw)
          exact ⟨c, u, by simpa using a, b⟩)
  have hV := hv z.cps.toList acc.toList (by rw [Array.length_toList, Array.length_toList]; exact hi.1) fun i v hw => by
    obtain ⟨c, u, a, b⟩ := hi.2 i v (by simpa using hw)
    exact ⟨c, u, by simpa using a, b⟩
  exact ⟨.ref _, upd H s.heap.objs.size (.lst (z.cps.toList.map fun c => V.str ⟨#[c]⟩)), I.laid (t' := tk) hk (Nat.le_refl _) ⟨by simpa using hz, acc.toList, c, hV, ha⟩, rfl, q _ hn⟩
theorem bD_list (hc : X.calm = true) : CallR X (.type "list") (rPure (ct X) listD) := by
  intro pins s σ H xs us Q I r h
  obtain ⟨da, O, ds, rv, hO, p, eg, q⟩ := h
  unfold listD at eg
  split at eg
  · cases eg
    obtain ⟨v, rfl, P⟩ := p.one
    obtain ⟨a, ys, rfl, ea, ra⟩ := P.lst
    exact call_list_of pins s σ H _ us Q I r ⟨a, ys, rfl, .inl (.inl (.inl ea)), fun l nl => q _ _ (Ex.new nl) (repN_lst nl ra)⟩
  · cases eg
    obtain ⟨v, rfl, P⟩ := p.one
    obtain ⟨a, ys, rfl, ea, ra, _⟩ := P.tup
    exact call_list_of pins s σ H _ us Q I r ⟨a, ys, rfl, .inr ea, fun l nl => q _ _ (Ex.new nl) (repN_lst nl ra)⟩
  · split at eg
    · rename_i z hz
      cases eg
      obtain ⟨v, rfl, P⟩ := p.one
      obtain rfl := P.str
      refine call_listStr hc pins s σ H _ us Q I r ⟨z, rfl, small_fits hz, fun l nl => q _ _ (Ex.new nl) (repN_lst nl ?_)⟩
      have e := RepAll.strs (c := ct X) (da := da) (G := vis O H) (z.cps.toList.map fun c => (⟨#[c]⟩ : Str))
      rw [List.map_map, List.map_map] at e
      exact e
    · cases eg
  · cases eg
def tupD : List D → Option RV
  | [.lst xs] => some (.sh (.tup xs))
  | [.tup xs] => some (.sh (.tup xs))
  | [.ktup xs] => some (.sh (.ktup xs))
  | _ => none
theorem bD_tup : CallR X (.type "tuple") (rPure (ct X) tupD) := by
  intro pins s σ H xs us Q I r h
  obtain ⟨da, O, ds, rv, hO, p, eg, q⟩ := h
  unfold tupD at eg
  split at eg
  · cases eg
    obtain ⟨v, rfl, P⟩ := p.one
    obtain ⟨a, ys, rfl, ea, ra⟩ := P.lst
    exact call_tuple_of pins s σ H _ us Q I r ⟨a, ys, rfl, .inl ⟨.inl (.inl ea), fun l nl => q _ _ (Ex.new nl) (repN_tup nl hO ra)⟩⟩
  · cases eg
    obtain ⟨v, rfl, P⟩ := p.one
    obtain ⟨a, ys, rfl, ea, ra, R⟩ := P.tup
    exact call_tuple_of pins s σ H _ us Q I r ⟨a, ys, rfl, .inr ⟨ea, q _ _ (Ex.refl _) R⟩⟩
  · cases eg
    obtain ⟨v, rfl, P⟩ := p.one
    obtain ⟨a, ys, rfl, ea, ra, R⟩ := P.ktup
    exact call_tuple_of pins s σ H _ us Q I r ⟨a, ys, rfl, .inr ⟨ea, q _ _ (Ex.refl _) R⟩⟩
  · cases eg
def asBl : D → Option Bool
  | .bl b => some b
  | _ => none
def asBls : List D → Option (List Bool)
  | [] => some []
  | d :: r => match asBl d with
    | some b => (asBls r).map (b :: ·)
    | none => none
theorem asBls_map : ∀ (bs : List Bool), asBls (bs.map D.bl) = some bs
  | [] => rfl
  | b :: r => by
    rw [List.map_cons]
    unfold asBls
    rw [asBls_map r]
    rfl
theorem asBls_some : ∀ {ds : List D} {bs : List Bool}, asBls ds = some bs → ds = bs.map D.bl
  | [], _, h => by
    cases h
    rfl
  | d :: r, _, h => by
    unfold asBls at h
    split at h
    · rename_i b e
      cases q : asBls r with
      | none =>
        rw [q] at h
        cases h
      | some bs =>
        rw [q] at h
        cases h
        rw [asBls_some q]
        unfold asBl at e
        split at e
        · cases e
          rfl
        · cases e
    · cases h
def allD : List D → Option RV
  | [.lst xs] => (asBls xs).map fun bs => .sh (.bl (bs.all id))
  | _ => none
theorem bD_all (hc : X.calm = true) : CallR X (.builtin "all") (rPure (ct X) allD) := by
  intro pins s σ H xs us Q I r h
  obtain ⟨da, O, ds, rv, hO, p, eg, q⟩ := h
  unfold allD at eg
  split at eg
  · rename_i ys
    cases e : asBls ys with
    | none =>
      rw [e] at eg
      cases eg
    | some bs =>
      rw [e] at eg
      cases eg
      obtain rfl := asBls_some e
      obtain ⟨v, rfl, P⟩ := p.one
      obtain ⟨a, zs, rfl, ea, ra⟩ := P.lst
      obtain rfl := ra.bls_inv
      exact cr_all hc pins s σ H _ us Q I r ⟨a, bs, rfl, .inl (.inl ea), q _ _ (Ex.refl _) (.bl _)⟩
  · cases eg
/-- sorted(texts) -/
def leS (a b : Str) : Bool := !PySem.Spec.ltCps b.cps.toList a.cps.toList
theorem lt_def (a b : List Nat) : PySem.Spec.ltCps a b = decide (a < b) := PyProof.Rows.ltCps_eq a b
theorem leS_trans (a b c : Str) (h1 : leS a b = true) (h2 : leS b c = true) : leS a c = true := by
  unfold leS at *
  rw [lt_def] at *
  simp only [Bool.not_eq_true', decide_eq_false_iff_not] at *
  exact List.not_lt.mpr (List.le_trans (List.not_lt.mp h1) (List.not_lt.mp h2))
theorem rising_pw : ∀ {p : Str} {r : List Str}, PyProof.Rows.risingS p r = true → (p :: r).Pairwise fun a b => leS a b = true
  | p, [], _ => by simp
  | p, x :: r, h => by
    have h' : (leS p x && PyProof.Rows.risingS x r) = true := h
    rw [Bool.and_eq_true] at h'
    have ih := rising_pw h'.2
    refine List.pairwise_cons.mpr ⟨fun y hy => ?_, ih⟩
    rcases List.mem_cons.mp hy with rfl | hy
    · exact h'.1
    · exact leS_trans _ _ _ h'.1 ((List.pairwise_cons.mp ih).1 y hy)
theorem sorted_pw : ∀ {r : List Str}, PyProof.Rows.sortedS r = true → r.Pairwise fun a b => leS a b = true
  | [], _ => .nil
  | x :: r, h => rising_pw h
/-! ### repr -/
/-! ### ''.join -/
def joinD (s : Str) : D → Option RV
  | .lst xs => match asStrs xs with
    | some ss => if (ss.map (·.length)).sum + ss.length * s.length ≤ 1000000 then some (.sh (.str (Txt.join s ss))) else none
    | none => none
  | _ => none
theorem mD_join : MtR X "str.join" (fun x xs H Q => ∃ s y, x = .str s ∧ xs = [y] ∧ rP1 (ct X) (joinD s) y H Q) := by
  intro pins s σ H x xs v us Q I rx r h
  obtain ⟨z, y, rfl, rfl, da, O, d1, rv, hO, P, eg, q⟩ := h
  unfold joinD at eg
  split at eg
  · rename_i ys
    split at eg
    · rename_i ss e
      split at eg
      · rename_i hz
        cases eg
        obtain rfl := asStrs_some e
        obtain ⟨a, zs, rfl, ea, ra⟩ := P.lst
        obtain rfl := ra.strs_inv
        exact mt_join pins s σ H _ _ v us Q I rx r ⟨z, a, ss, rfl, rfl, .inl (.inl (.inl ea)), Nat.le_trans hz (by decide), q _ _ (Ex.refl _) (.str _)⟩
      · cases eg
    · cases eg
  · cases eg
end
end FD

end sec_FD11
section sec_FD12
set_option maxRecDepth 100000
set_option maxHeartbeats 5000000
/-! FD12: slices, comparisons, lists that a slot owns, enumerate, displays, sorted by a lambda. -/
namespace FD
open PySem L2
variable [Tabl]

/-! ### slices -/
def cutL {α : Type} (xs : List α) (lo hi : Option Int) : List α := (xs.drop (HT.sIx xs.length 0 lo)).take (HT.sIx xs.length xs.length hi - HT.sIx xs.length 0 lo)
def slD : D → Option Int → Option Int → Option RV
  | .lst xs, lo, hi => some (.fr (.lst (cutL xs lo hi)))
  | .tup xs, lo, hi => some (.sh (.tup (cutL xs lo hi)))
  | .ktup xs, lo, hi => some (.sh (.ktup (cutL xs lo hi)))
  | .str z, lo, hi => if z.length ≤ 1000000 then some (.sh (.str (cutS z lo hi))) else none
  | _, _, _ => none
def rSl (c : Ct) : V → Option Int → Option Int → Hp → VK → Prop := fun x lo hi H Q => ∃ da O d r, (∀ a ∈ O, ∃ o, H a = some o ∧ NT o) ∧ RepP c da O H x d ∧ slD d lo hi = some r ∧ ∀ v H', Ex H H' → RepN c da O H H' r v → Q v H'
theorem RepAll.cut {c : Ct} {da : DA} {G : Hp} {vs : List V} {ds : List D} (r : RepAll c da G vs ds) (lo hi : Option Int) : RepAll c da G (cutV vs lo hi) (cutL ds lo hi) := by
  unfold cutV cutL
  rw [r.length]
  exact (r.drop _).take _
theorem cut_whole {α : Type} {xs : List α} {lo hi : Option Int} (h : HT.sIx xs.length 0 lo = 0 ∧ HT.sIx xs.length xs.length hi = xs.length) : cutL xs lo hi = xs := by
  unfold cutL
  rw [h.1, h.2]
  simp
section
variable {X : Cx} {a b e o : Expr} {es : List Expr} {pos p p2 apos cpos : Pos} {x m f cn : Str} {k j n i : Nat} {dd : List D} {fa fb fo fe fe' : M RV}
theorem repN_ktup {c : Ct} {da : DA} {O : List Addr} {H : Hp} {p : Addr} {xs : List V} {ds : List D} (np : H p = none) (hO : ∀ a ∈ O, ∃ o, H a = some o ∧ NT o) (r : RepAll c da (vis O H) xs ds) : RepN c da O H (upd H p (.tup xs)) (.sh (.ktup ds)) (.ref p) := by
  have h : Rep c da (vis O (upd H p (.tup xs))) (.ref p) (.tup ds) := repN_tup np hO r
  cases h with
  | tup s q => exact .ktup (.inl (.inl s)) q
theorem slD_ok : SlR X (rSl (ct X)) := by
  intro pins s σ H x v vl vu lo hi sl Q I rx hs pl pu h
  obtain ⟨da, O, d, r, hO, P, eg, q⟩ := h
  unfold slD at eg
  split at eg
  · cases eg
    obtain ⟨a, xs, rfl, ea, ra⟩ := P.lst
    exact sl_list pins s σ H _ v vl vu _ _ sl Q I rx hs pl pu ⟨a, xs, rfl, .inl (.inl ea), fun p np => q _ _ (Ex.new np) (repN_lst np (ra.cut _ _))⟩
  · cases eg
    obtain ⟨a, xs, rfl, ea, ra, R⟩ := P.tup
    refine sl_tupA pins s σ H _ v vl vu _ _ sl Q I rx hs pl pu ⟨a, xs, rfl, ea, fun hw => ?_, fun _ p np => q _ _ (Ex.new np) (repN_tup np hO (ra.cut _ _))⟩
    rw [ra.length] at hw
    rw [cut_whole hw] at q
    exact q _ _ (Ex.refl _) R
  · cases eg
    obtain ⟨a, xs, rfl, ea, ra, R⟩ := P.ktup
    refine sl_tupA pins s σ H _ v vl vu _ _ sl Q I rx hs pl pu ⟨a, xs, rfl, ea, fun hw => ?_, fun _ p np => q _ _ (Ex.new np) (repN_ktup np hO (ra.cut _ _))⟩
    rw [ra.length] at hw
    rw [cut_whole hw] at q
    exact q _ _ (Ex.refl _) R
  · split at eg
    · rename_i hz
      cases eg
      exact sl_str pins s σ H _ v vl vu _ _ sl Q I rx hs pl pu ⟨_, P.str, small_fits hz, q _ _ (Ex.refl _) (.str _)⟩
    · cases eg
  · cases eg
def tO (c : Ct) (F : Fm) (f : M (Option Int)) : TO := fun σ H Q => ∃ O ρ w b ρ' w', SR c F O ρ w σ H ∧ f ρ w = some (b, ρ', w') ∧ ∀ O' H', SR c F O' ρ' w' σ H' → Ex (vis O H) (vis O' H') → Q b H'
def FO (X : Cx) (e : Option Expr) (f : M (Option Int)) : Prop := ∀ F, PO X e (tO (ct X) F f)
theorem PO.wk {e : Option Expr} {t t' : TO} (h : PO X e t) (k : ∀ σ H Q, t' σ H Q → t σ H Q) : PO X e t' := ⟨fun pins s σ H Q I q => h.run pins s σ H Q I (k σ H Q q)⟩
theorem fo_none : FO X none (pureM none) := fun F => PO.wk po_none fun σ H Q q => by
  obtain ⟨O, ρ, w, r, ρ', w', S, e, k⟩ := q
  cases e
  exact k O H S (Ex.refl _)
def asI : RV → Option Int
  | .sh (.int i) => some i
  | _ => none
def partM (f : M RV) : M (Option Int) := bindM f fun r => fun ρ w => match asI r with
  | some i => some (some i, ρ, w)
  | none => none
theorem fo_some (h : FE X e fe) : FO X (some e) (partM fe) := fun F => PO.wk (po_some (h F)) fun σ H Q q => by
  obtain ⟨O, ρ, w, r, ρ', w', S, e, k⟩ := q
  refine tE_then S e fun x O1 ρ1 w1 H1 r1 S1 e1 R1 h1 => ?_
  split at h1
  · rename_i i ei
    cases h1
    unfold asI at ei
    split at ei
    · cases ei
      cases R1
      exact ⟨i, rfl, k O1 H1 S1 e1⟩
    · cases ei
  · cases h1
def slM (fa : M RV) (fl fh : M (Option Int)) : M RV := bindM fa fun r1 => bindM fl fun lo => bindM fh fun hi => lift1 (fun d => slD d lo hi) r1
theorem tO_then {c : Ct} {F : Fm} {O : List Addr} {ρ : Env} {w : W} {σ : L2.St} {H : Hp} {f : M (Option Int)} {β : Type} {k : Option Int → M β} {z : β × Env × W} (S : SR c F O ρ w σ H) (h : bindM f k ρ w = some z) {Q : Option Int → Hp → Prop}
    (q : ∀ b O1 ρ1 w1 H1, SR c F O1 ρ1 w1 σ H1 → Ex (vis O H) (vis O1 H1) → k b ρ1 w1 = some z → Q b H1) : tO c F f σ H Q := by
  obtain ⟨r, ρ1, w1, e1, e2⟩ := bindM_some h
  exact ⟨O, ρ, w, r, ρ1, w1, S, e1, fun O1 H1 S1 x => q r O1 ρ1 w1 H1 S1 x e2⟩
theorem fe_sl {lo hi : Option Expr} {fl fh : M (Option Int)} (ha : FE X a fa) (hl : FO X lo fl) (hh : FO X hi fh) : FE X (.Subscript a (.Slice lo hi none p2) pos) (slM fa fl fh) := fun F =>
  PE.wk (pe_slice slD_ok (ha F) (hl F) (hh F)) fun σ H Q h => by
    obtain ⟨O, ρ, w, r, ρ', w', S, e, k⟩ := h
    refine tE_then S e fun v O1 ρ1 w1 H1 r1 S1 e1 R1 h1 => ?_
    refine tO_then S1 h1 fun lo O2 ρ2 w2 H2 S2 e2 h2 => ?_
    refine tO_then S2 h2 fun hi O3 ρ3 w3 H3 S3 e3 h3 => ?_
    obtain ⟨d1, r', p1, eg, ez⟩ := lift1_some h3
    cases ez
    exact ⟨F.dr.da, O3, d1, r, S3.trk, (R1.hold.mono (e2.trans e3)).peek S3 p1, eg, fun v H4 e4 n => k v O3 H4 (S3.grow e4) (((e1.trans e2).trans e3).trans (vis_mono e4)) ((n.out S3 e4).less ((e1.trans e2).trans e3))⟩

/-! ### comparisons, as values and as tests -/
structure FC (X : Cx) (op : CmpOp) (a b : Expr) (pos : Pos) (f : M RV) : Prop where
  fe : FE X (.Compare a [op] [b] pos) f
  ft : FT X (.Compare a [op] [b] pos) (boolM f)
theorem fc_data {op : CmpOp} {g : D → D → Option RV} (ho : OpR X (compareOp op) (rP2 (ct X) g)) (ha : FE X a fa) (hb : FE X b fb) (hm : behindInMarks op b = false) : FC X op a b pos (op2M g fa fb) := ⟨fe_cmp ho ha hb hm, ft_cmp ho ha hb hm⟩
def eqOM (cn : Str) (ic : List (Str × Bool)) (den : List D → W → Option (RV × W)) (ne : Bool) (fa fb : M RV) : M RV := bindM fa fun r1 => bindM fb fun r2 => bindM (escAll [r1, r2]) fun ds => match ds with
  | [.ins c' gs, d2] => if c' = cn ∧ isiD (fun _ => true) ic d2 = some true then bindM (runD den [.ins c' gs, d2]) fun r => match r with
    | .sh (.bl b) => pureM (.sh (.bl (if ne then !b else b)))
    | _ => failM
    else failM
  | _ => failM
theorem eqO_read {c : Ct} {F : Fm} {ic : List (Str × Bool)} {den : List D → W → Option (RV × W)} {ne : Bool} {σ : L2.St} {H : Hp} {Q : VK} (h : tE c F (eqOM cn ic den ne fa fb) σ H Q) : tOp (rEq c cn ic den ne) (tE c F fa) (tE c F fb) σ H Q := by
  obtain ⟨O, ρ, w, r, ρ', w', S, e, k⟩ := h
  refine tE_then S e fun x O1 ρ1 w1 H1 r1 S1 e1 R1 h1 => ?_
  refine tE_then S1 h1 fun y O2 ρ2 w2 H2 r2 S2 e2 R2 h2 => ?_
  obtain ⟨ds, ρ3, w3, h3, h4⟩ := bindM_some h2
  obtain ⟨rfl, O3, S3, k3, r3⟩ := escAll_ok S2 (.cons (R1.hold.mono e2) (.cons R2.hold .nil)) h3
  split at h4
  · rename_i ds c' gs d2
    split at h4
    · rename_i hc
      obtain ⟨rr, ρ4, w4, h5, h6⟩ := bindM_some h4
      obtain ⟨rq, w5, h7, ez⟩ := runD_some h5
      cases ez
      cases id r3 with
      | cons q1 q2 =>
        cases q2 with
        | cons q2 q3 =>
          obtain ⟨rfl, hi⟩ := hc
          refine ⟨gs, d2, F.dr.da, O3, .inl q1, .inl q2, hi, sp_of (E := E0) S3 r3 rfl h7 fun v H' S4 e4 R4 => ?_⟩
          split at h6
          · rename_i b
            cases h6
            cases R4
            exact ⟨b, rfl, k _ O3 H' S4 (((e1.trans e2).trans k3).trans e4) (.bl _)⟩
          · cases h6
    · cases h4
  · cases h4
theorem fc_neO {ic : List (Str × Bool)} {den : List D → W → Option (RV × W)} (cl : EqsD X.prog X.w X.K X.mg X.base k cn ic den) (hr : Room j X.A) (ha : FE X a fa) (hb : FE X b fb) (hk : k + 1 ≤ j := by decide) (hm : behindInMarks .NotEq b = false := by rfl) :
    FC X .NotEq a b pos (eqOM cn ic den true fa fb) :=
  ⟨fun F => PE.wk (pe_cmpR (op_neO cl (hr.mono hk)) (ha F) (hb F) hm) fun σ H Q h => eqO_read h, fun F => PT.wk (pt_cmpR (op_neO cl (hr.mono hk)) (ha F) (hb F) hm) fun σ H Q q => eqO_read (bool_read q)⟩
end

/-! ### lists that a slot owns -/
section
variable {c : Ct} {F : Fm} {O : List Addr} {ρ : Env} {w : W} {σ : L2.St} {H : Hp}
theorem SR.pokeOwn {i : Nat} {d d' : D} {a : Addr} {o' : HO} (S : SR c F O ρ w σ H) (h : ρ[i]? = some (some (Slot.own d))) (hs : σ[i]? = some (some (V.ref a))) (ob : Obj c F.dr.da (vis O H) o' d') :
    SR c F O (ρ.set i (some (.own d'))) w σ (upd H a o') ∧ vis O (upd H a o') = vis O H := by
  obtain ⟨a', o, h1, h2, h3, h4, h5⟩ := S.own i d h
  rw [hs] at h1
  cases h1
  have nx : ∀ φ, o ≠ .ext φ := fun φ z => by
    rcases h5 with ⟨_, _, e, _⟩ | ⟨_, _, e, _⟩ | ⟨_, _, e, _⟩ | ⟨_, _, _, _, _, e, _⟩ <;> (rw [z] at e; cases e)
  have v : vis O (upd H a o') = vis O H := vis_upd h2
  have nd : ∀ b ∈ F.dr.as, b ≠ a := fun b hb z => h3 (z ▸ S.drs b hb)
  refine ⟨⟨by rw [List.length_set]; exact S.len, fun b u q n => ?_, S.new, S.sub, S.drs, fun b q => ?_, ?_, fun j e q => ?_, fun j e q => ?_, fun j j' e e' b q q' => ?_⟩, v⟩
  · rw [upd_ne fun z => ?_]
    · exact S.base b u q n
    · rw [z, S.new a h2 h3] at q
      cases q
  · by_cases z : b = a
    · rw [z]
      exact ⟨o', upd_same, ob.nt⟩
    · rw [upd_ne z]
      exact S.trk b q
  · exact S.draw.poke nd h2 h4 nx
  · rw [v]
    rcases getElem?_set_some q with ⟨_, z⟩ | ⟨_, q⟩
    · cases z
    · exact S.val j e q
  · rw [v]
    rcases getElem?_set_some q with ⟨rfl, z⟩ | ⟨ne, q⟩
    · cases z
      exact ⟨a, o', hs, h2, h3, upd_same, ob⟩
    · obtain ⟨b, u, q1, q2, q3, q4, q5⟩ := S.own j e q
      refine ⟨b, u, q1, q2, q3, ?_, q5⟩
      rw [upd_ne fun z => ?_]
      · exact q4
      · rw [z] at q1
        exact ne (S.uni i j d e a h q hs q1)
  · have back : ∀ {j : Nat} {e : D}, (ρ.set i (some (.own d')))[j]? = some (some (Slot.own e)) → ∃ e0, ρ[j]? = some (some (Slot.own e0)) := fun {j e} q => by
      rcases getElem?_set_some q with ⟨rfl, z⟩ | ⟨_, q⟩
      · exact ⟨d, h⟩
      · exact ⟨e, q⟩
    obtain ⟨e0, q0⟩ := back q
    obtain ⟨e1, q1⟩ := back q'
    exact fun a1 a2 => S.uni j j' e0 e1 b q0 q1 a1 a2
end
def ownL (ρ : Env) (i : Nat) : Option (List D) := match ρ[i]? with
  | some (some (.own (.lst ds))) => some ds
  | _ => none
theorem ownL_some {ρ : Env} {i : Nat} {ds : List D} (h : ownL ρ i = some ds) : ρ[i]? = some (some (.own (.lst ds))) := by
  unfold ownL at h
  split at h
  · rename_i e
    cases h
    exact e
  · cases h
def appM (i : Nat) (fe : M RV) : M RV := fun ρ w => match ownL ρ i with
  | none => none
  | some _ => bindM fe (fun r => bindM (escR r) fun d => fun ρ1 w1 => match ownL ρ1 i with
    | some ds => if ds.length < 1000000 then some (.sh .non, ρ1.set i (some (.own (.lst (ds ++ [d])))), w1) else none
    | none => none) ρ w
def popM (i : Nat) (fe : M RV) : M RV := fun ρ w => match ownL ρ i with
  | none => none
  | some _ => bindM fe (fun r => fun ρ1 w1 => match r with
    | .sh (.int k) => (match ownL ρ1 i with
      | some ds => if 0 ≤ k ∧ k < ds.length ∧ ds.length < 1000000 then (match ds[k.toNat]? with
        | some d => some (.sh d, ρ1.set i (some (.own (.lst (ds.eraseIdx k.toNat)))), w1)
        | none => none) else none
      | none => none)
    | _ => none) ρ w
section
variable {X : Cx} {e : Expr} {pos p apos cpos : Pos} {x : Str} {i : Nat} {fe : M RV}
theorem own_obj {c : Ct} {F : Fm} {O : List Addr} {ρ : Env} {w : W} {σ : L2.St} {H : Hp} {ds : List D} (S : SR c F O ρ w σ H) (h : ownL ρ i = some ds) : ∃ a xs, σ[i]? = some (some (V.ref a)) ∧ H a = some (.lst xs) ∧ RepAll c F.dr.da (vis O H) xs ds := by
  obtain ⟨a, o, h1, _, _, h4, h5⟩ := S.own i _ (ownL_some h)
  rcases h5 with ⟨xs, es, rfl, e2, r⟩ | ⟨_, _, _, e2, _⟩ | ⟨_, _, _, e2, _⟩ | ⟨_, _, _, _, _, _, e2, _⟩
  · cases e2
    exact ⟨a, xs, h1, h4, r⟩
  · cases e2
  · cases e2
  · cases e2
/-- x.append(e) -/
theorem fe_append (hv : PE X (.Name x p) (tVar i)) (he : FE X e fe) (hbase : attributeBase (.Name x p) "append" X.env (eval (.Name x p) X.env) = eval (.Name x p) X.env := by rfl)
    (hfew : ((backTo cpos (starEach [e] X.env)).all (fun x => !x.1) && (backToKw cpos (keywordEach [] X.env)).all (fun x => x.1.isSome) && decide ([e].length + ([] : List Keyword).length + (if ([] : List Keyword).isEmpty then 0 else 1) < 30)) = true := by rfl)
    (hline : (apos.endLine == cpos.line) = true := by rfl) (hs : starEach [e] X.env = (false, eval e X.env) :: starEach [] X.env := by rfl) : FE X (.Call (.Attribute (.Name x p) "append" apos) [e] [] cpos) (appM i fe) := fun F =>
  PE.wk (pe_bm PySem.F.plainAttrs_list PySem.F.slot_list_append PySem.F.type_list_append mt_append hv (pa_cons (he F) pa_nil hs) hbase hfew hline hs) fun σ H Q h => by
    obtain ⟨O, ρ, w, r, ρ', w', S, e, k⟩ := h
    unfold appM at e
    split at e
    · cases e
    · rename_i ds0 e0
      obtain ⟨a, xs, h1, h2, r1⟩ := own_obj S e0
      refine ⟨_, h1, .inl ⟨rfl, xs, .inl (.inl h2)⟩, ?_⟩
      refine tE_then S e fun v O1 ρ1 w1 H1 rv S1 e1 R1 h3 => ?_
      obtain ⟨d, ρ2, w2, h4, h5⟩ := bindM_some h3
      obtain ⟨rfl, O2, S2, k2, r2⟩ := escR_ok S1 R1.hold h4
      split at h5
      · rename_i ds e5
        split at h5
        · rename_i hl
          cases h5
          obtain ⟨a', ys, q1, q2, q3⟩ := own_obj S2 e5
          rw [h1] at q1
          cases q1
          refine ⟨a, ys, v, rfl, rfl, q2, by rw [q3.length]; exact Nat.lt_of_lt_of_le hl (by decide), ?_⟩
          obtain ⟨S3, v3⟩ := S2.pokeOwn (ownL_some e5) h1 (.inl ⟨ys ++ [v], ds ++ [d], rfl, rfl, q3.snoc r2⟩)
          exact k _ O2 _ S3 (by rw [v3]; exact e1.trans k2) .non
        · cases h5
      · cases h5
/-- x.pop(e) -/
theorem fe_pop (hv : PE X (.Name x p) (tVar i)) (he : FE X e fe) (hbase : attributeBase (.Name x p) "pop" X.env (eval (.Name x p) X.env) = eval (.Name x p) X.env := by rfl)
    (hfew : ((backTo cpos (starEach [e] X.env)).all (fun x => !x.1) && (backToKw cpos (keywordEach [] X.env)).all (fun x => x.1.isSome) && decide ([e].length + ([] : List Keyword).length + (if ([] : List Keyword).isEmpty then 0 else 1) < 30)) = true := by rfl)
    (hline : (apos.endLine == cpos.line) = true := by rfl) (hs : starEach [e] X.env = (false, eval e X.env) :: starEach [] X.env := by rfl) : FE X (.Call (.Attribute (.Name x p) "pop" apos) [e] [] cpos) (popM i fe) := fun F =>
  PE.wk (pe_bm PySem.F.plainAttrs_list PySem.F.slot_list_pop PySem.F.type_list_pop mt_popAt hv (pa_cons (he F) pa_nil hs) hbase hfew hline hs) fun σ H Q h => by
    obtain ⟨O, ρ, w, r, ρ', w', S, e, k⟩ := h
    unfold popM at e
    split at e
    · cases e
    · rename_i ds0 e0
      obtain ⟨a, xs, h1, h2, r1⟩ := own_obj S e0
      refine ⟨_, h1, .inl ⟨rfl, xs, .inl (.inl h2)⟩, ?_⟩
      refine tE_then S e fun v O1 ρ1 w1 H1 rv S1 e1 R1 h3 => ?_
      split at h3
      · rename_i kk
        cases R1
        split at h3
        · rename_i ds e5
          split at h3
          · rename_i hl
            split at h3
            · rename_i d ed
              cases h3
              obtain ⟨a', ys, q1, q2, q3⟩ := own_obj S1 e5
              rw [h1] at q1
              cases q1
              obtain ⟨y, hy, ry⟩ := q3.get ed
              obtain ⟨hl1, hl2, hl3⟩ := hl
              have hn : seqIndex? kk ys.length = some kk.toNat := seqIndex_of hl1 (by rw [q3.length]; exact hl2)
              refine ⟨a, ys, kk, kk.toNat, y, rfl, rfl, q2, by omega, by omega, hn, hy, ?_⟩
              obtain ⟨S3, v3⟩ := S1.pokeOwn (ownL_some e5) h1 (.inl ⟨ys.eraseIdx kk.toNat, ds.eraseIdx kk.toNat, rfl, rfl, q3.eraseIdx _⟩)
              exact k _ O1 _ S3 (by rw [v3]; exact e1) (by show Rep _ _ (vis O1 (upd H1 a _)) y d; rw [v3]; exact ry)
            · cases h3
          · cases h3
        · cases h3
      · cases h3
end
end FD

end sec_FD12
section sec_FD13
set_option maxRecDepth 100000
set_option maxHeartbeats 5000000
/-! FD13: enumerate, sorted by a lambda, displays of dicts. -/
namespace FD
open PySem L2
variable [Tabl]
def numD : Nat → List D → List D
  | _, [] => []
  | n, d :: r => .tup [.int n, d] :: numD (n + 1) r
theorem numD_get : ∀ (ds : List D) (n i : Nat), (numD n ds)[i]? = (ds[i]?).map fun d => .tup [.int ((n + i : Nat) : Int), d]
  | [], n, i => by simp [numD]
  | d :: r, n, 0 => by simp [numD]
  | d :: r, n, i + 1 => by
    rw [numD, List.getElem?_cons_succ, List.getElem?_cons_succ, numD_get r (n + 1) i]
    have e : n + 1 + i = n + (i + 1) := by omega
    rw [e]
theorem numD_length : ∀ (ds : List D) (n : Nat), (numD n ds).length = ds.length
  | [], n => rfl
  | d :: r, n => by simp [numD, numD_length r]
section
variable {c : Ct} {dr : Dr} {da : DA} {G : Hp}
theorem wk_pair {ds : List D} {xs : List V} {i : Nat} {O : List Addr} {H : Hp} {T : Addr} {x : V} {d : D} (r : RepAll c da G xs ds) (hd : (numD 0 ds)[i]? = some d) (e : Ex G (vis O H)) (tr : ∀ a ∈ O, ∃ o, H a = some o ∧ NT o) (nT : H T = none) (hx : xs[i]? = some x) :
    Ex H (upd H T (.tup [.int (i : Nat), x])) ∧ Rep c da (vis O (upd H T (.tup [.int (i : Nat), x]))) (.ref T) d := by
  rw [numD_get] at hd
  cases q : ds[i]? with
  | none =>
    rw [q] at hd
    cases hd
  | some d0 =>
    rw [q] at hd
    have hd' : D.tup [.int ((0 + i : Nat) : Int), d0] = d := Option.some.inj hd
    subst hd'
    obtain ⟨v, hv, rv⟩ := r.get q
    rw [hx] at hv
    cases hv
    have nO : T ∉ O := fun z => by
      obtain ⟨o, h, _⟩ := tr T z
      rw [nT] at h
      cases h
    have xn : Ex H (upd H T (.tup [.int (i : Nat), x])) := Ex.new nT
    refine ⟨xn, .tup (xs := [.int (i : Nat), x]) ?_ (.cons ?_ (.cons (rv.mono (e.trans (vis_mono xn))) .nil))⟩
    · rw [vis_out nO]
      exact upd_same
    · rw [Nat.zero_add]
      exact .int _
theorem wk_enumL {a : Addr} {xs : List V} {ds : List D} (s0 : G a = some (.lst xs)) (r : RepAll c dr.da G xs ds) : Wk c dr (Ite c.K a) G (numD 0 ds) := fun i O H e tr _ => by
  have s' : SqL c.K H a xs := (e.trans vis_ex).sl (SqL.of s0)
  refine ⟨fun d h => ?_, fun h => ⟨xs, s', by rw [numD_length] at h; rw [r.length]; exact Nat.le_of_eq h⟩⟩
  have hl : i < ds.length := by rw [← numD_length ds 0]; exact (List.getElem?_eq_some_iff.mp h).1
  obtain ⟨v, h1, _⟩ := r.get (i := i) (d := ds[i]) (by simp [hl])
  refine ⟨⟨xs, v, s', h1⟩, fun x H' y => ?_⟩
  obtain ⟨T, x', rfl, nT, rfl, hx⟩ := y
  exact wk_pair r h e tr nT (hx xs s')
theorem wk_enumT {a : Addr} {xs : List V} {ds : List D} (s : SqT c.K G a xs) (r : RepAll c dr.da G xs ds) : Wk c dr (EN.Ien c.K (.tup a)) G (numD 0 ds) := fun i O H e tr _ => by
  have now : (ZP.Src.tup a).has c.K H xs := (e.trans vis_ex).st s
  refine ⟨fun d h => ?_, fun h => ⟨xs, now, by rw [r.length, ← h, numD_length]⟩⟩
  have hl : i < ds.length := by rw [← numD_length ds 0]; exact (List.getElem?_eq_some_iff.mp h).1
  obtain ⟨v, h1, _⟩ := r.get (i := i) (d := ds[i]) (by simp [hl])
  refine ⟨⟨xs, v, now, h1⟩, fun x H' y => ?_⟩
  obtain ⟨T, x', rfl, nT, rfl, hx⟩ := y
  exact wk_pair r h e tr nT (hx xs now)
end
def seqD : D → Option (List D)
  | .lst ds => some ds
  | .tup ds => some ds
  | .ktup ds => some ds
  | _ => none
def enumM (fe : M RV) : M (List D) := bindM fe fun r => bindM (escR r) fun d => fun ρ w => match seqD d with
  | some ds => some (numD 0 ds, ρ, w)
  | none => none
section
variable {X : Cx} {e : Expr} {elts : List Expr} {pos p tpos lpos kpos p1 p2 p3 p4 p5 : Pos} {kk i1 k : Nat} {fe : M RV}
theorem fi_enum (hg : Gl X "enumerate") (hm : X.mg "enumerate" = none) (he : FE X e fe) (hs : starEach [e] X.env = (false, eval e X.env) :: starEach [] X.env := by rfl) (hs0 : starEach [e] X.env = [(false, eval e X.env)] := by rfl) : FI X (.Tuple elts kk tpos) (.Call (.Name "enumerate" p) [e] [] pos) (enumM fe) := fun F => ⟨fun pins s σ H R I q => by
  obtain ⟨O, ρ, w, ds, ρ', w', S, e, k⟩ := q
  obtain ⟨r, ρ1, w1, e1, e2⟩ := bindM_some e
  obtain ⟨d, ρ2, w2, e3, e4⟩ := bindM_some e2
  have go : ∀ (Q : VK), (∀ v O2 H2, SR (ct X) F O2 ρ2 w2 σ H2 → Ex (vis O H) (vis O2 H2) → Rep (ct X) F.dr.da (vis O2 H2) v d → Q v H2) → tE (ct X) F fe σ H Q := fun Q hq => ⟨O, ρ, w, r, ρ1, w1, S, e1, fun v O1 H1 S1 x1 R1 => by
    obtain ⟨rfl, O2, S2, k2, r2⟩ := escR_ok S1 R1.hold e3
    exact hq v O2 H1 S2 (x1.trans k2) r2⟩
  cases d with
  | lst es =>
    cases e4
    refine (pi_enum hg hm (pa_cons (he F) pa_nil hs) hs0).run pins s σ H R I (go _ fun v O2 H2 S2 x2 r2 => ?_)
    cases r2 with
    | lst s r => exact ⟨_, _, rfl, vis_ex.sl (SqL.of s), k _ O2 H2 S2 x2 (wk_enumL s r)⟩
  | tup es =>
    cases e4
    refine (EN.pi_en hg hm (he F) hs).run pins s σ H R I (go _ fun v O2 H2 S2 x2 r2 => ?_)
    cases r2 with
    | @tup a _ _ s r => exact ⟨.tup a, _, rfl, .inl (.inl (vis_ex _ _ s)), k _ O2 H2 S2 x2 (wk_enumT (.inl (.inl s)) r)⟩
  | ktup es =>
    cases e4
    refine (EN.pi_en hg hm (he F) hs).run pins s σ H R I (go _ fun v O2 H2 S2 x2 r2 => ?_)
    cases r2 with
    | @ktup a _ _ s r => exact ⟨.tup a, _, rfl, vis_ex.st s, k _ O2 H2 S2 x2 (wk_enumT s r)⟩
  | _ => cases e4⟩

/-! ### sorted(e, key=lambda y: (len(y), y)) -/
theorem fe_sortLam {c P : Addr} {y : Str} {params : Arguments} {scope : Scope} (hg : Gl X "sorted") (hm : X.mg "sorted" = none) (hml : X.mg "len" = none) (hr : Room (k + 4) X.A)
    (TB : LamX.TabB X.base X.mg c P) (hcode : X.env.code = .ref c) (hmT : (P, X.env.qual ++ "<lambda>") ∈ Tabl.T) (hu : ∀ p ∈ Tabl.T, p.1 = P → p.2 = X.env.qual ++ "<lambda>") (he : FE X e fe)
    (hdef : defaultsOf params X.env = ([], [])) (hfree : ∀ z ∈ scope.names, z.2 ≠ .free)
    (hbind : ∀ cl pm cd ctv v, bindArgs (PySem.W.kla_fn "<lambda>" (X.env.qual ++ "<lambda>") params (.Tuple [.Call (.Name "len" p1) [.Name y p2] [] p3, .Name y p4] i1 p5) scope cl pm cd ctv) ⟨[v], []⟩ = pure [(y, v)])
    (hk : scope.kind = .function) (hco : scope.isCoroutine = false) (hgen : scope.isGenerator = false) (hcell : ∀ x ∈ scope.names, x.2 ≠ .cell)
    (hy : scope.names.lookup y = some .local) (hl : scope.names.lookup ("len" : Str) = some .globalImplicit) (hd : (y == ("__debug__" : Str)) = false)
    (hs : starEach [e] X.env = (false, eval e X.env) :: starEach [] X.env := by rfl) :
    FE X (.Call (.Name "sorted" p) [e] [⟨some "key", .Lambda params (.Tuple [.Call (.Name "len" p1) [.Name y p2] [] p3, .Name y p4] i1 p5) scope lpos, kpos⟩] pos) (sortM SK.byLen fe) := fun F =>
  PE.wk (SK.pe_sortLam hg hm hml hr TB hcode hmT hu (he F) hdef hfree hbind hk hco hgen hcell hy hl hd hs) fun σ H Q h => by
    obtain ⟨O, ρ, w, r, ρ', w', S, e, kq⟩ := h
    refine tE_then S e fun v O1 ρ1 w1 H1 r1 S1 e1 R1 h1 => ?_
    obtain ⟨xs, p1, hx, ez⟩ := sort_in h1
    cases ez
    obtain ⟨l, ys, rfl, hl, ra⟩ := (R1.hold.peek S1 p1).lst
    obtain rfl := ra.strs_inv
    have dT := S1.draw.d.2
    have hP : P ∈ F.dr.as := Dr.tab hmT
    have isT : ∃ ps, H1 P = some (.tbl ps) := by
      obtain ⟨ps, q, _⟩ := dT _ hmT
      exact ⟨ps, q⟩
    obtain ⟨ps, tP⟩ := isT
    have nP : ∀ b o, H1 b = some o → (∀ ps, o ≠ .tbl ps) → b ≠ P := fun b o q n z => by
      rw [z, tP] at q
      exact n ps (Option.some.inj q).symm
    refine ⟨l, xs, rfl, .inl (.inl hl), hx, dT, nP _ _ hl (fun _ z => nomatch z), fun H2 p t2 k2 np => ?_⟩
    have kp : Kp F.dr H1 H2 := fun b o q n => k2 b o q fun z => n (z ▸ hP)
    have dw : DrawAt F.dr w' H2 := ⟨fun t q => let ⟨q1, q2, q3, q4⟩ := S1.draw.d.1 t q; ⟨k2 _ _ q1 (nP _ _ q1 (fun _ z => nomatch z)), k2 _ _ q2 (nP _ _ q2 (fun _ z => nomatch z)), k2 _ _ q3 (nP _ _ q3 (fun _ z => nomatch z)), q4⟩, t2⟩
    have S2 := S1.kept kp (S1.draw.wr dw rfl (vis_kp S1.drO kp) fun b hb u hu => k2 b u hu fun z => (S1.draw.s.dj b hb).2 (z ▸ List.mem_map.mpr ⟨_, hmT, rfl⟩))
    obtain ⟨S3, k3, R3⟩ := new_lst S2 np (RepAll.strs (SK.byLen xs))
    exact kq _ O1 _ S3 ((e1.trans (vis_kp S1.drO kp)).trans k3) (R3.less (e1.trans (vis_kp S1.drO kp)))

/-! ### displays of dicts -/
theorem fe_dic0 : FE X (.Dict [] [] pos) (pureM (.fr (.dic []))) := fun F => PE.wk pe_dnewK fun σ H Q h => by
  obtain ⟨O, ρ, w, r, ρ', w', S, e, k⟩ := h
  cases e
  intro p np
  have x2 : Ex H (upd H p (.dK [])) := Ex.new np
  obtain ⟨S3, n3, k3⟩ := S.hide np x2 upd_same
  exact k _ O _ (S.grow x2) (vis_mono x2) ⟨p, _, rfl, n3, S3, upd_same, .inr (.inl ⟨[], [], rfl, rfl, .nil⟩), k3⟩
end
end FD

end sec_FD13
section sec_FD14
set_option maxRecDepth 100000
set_option maxHeartbeats 5000000
/-! FD14: the draws. -/
namespace FD
open PySem L2
variable [Tabl]
section
variable {c : Ct} {F : Fm} {O : List Addr} {ρ : Env} {w w' : W} {σ : L2.St} {H : Hp} {v : V}
def drK (a b : Addr) (w : W) : List (Key × V) := [(.inr "wide", .ref a), (.inr "cells", .ref b), (.inr "rest", .int w.rest), (.inr "turn", .int w.turn)]
theorem draw_of {G : Hp} (S : SR c F O ρ w σ H) (R : Rep c F.dr.da G v .draw) : ∃ t, F.dr.at_ = some t ∧ v = .ref t.1 ∧ H t.1 = some (.dK (drK t.2.1 t.2.2 w)) ∧
    H t.2.1 = some (.lst (w.wide.map V.int)) ∧ H t.2.2 = some (.lst (w.cells.map V.int)) ∧ t.2.1 ≠ t.2.2 ∧ w.cells = F.dr.cl := by
  cases R with
  | draw h =>
    unfold Dr.da at h
    cases e : F.dr.at_ with
    | none =>
      rw [e] at h
      cases h
    | some t =>
      rw [e] at h
      cases h
      exact ⟨t, rfl, rfl, S.draw.d.1 t e⟩
end
def drI (f : W → Int) (fo : M RV) : M RV := bindM fo fun r => fun ρ w => match r with
  | .sh .draw => some (.sh (.int (f w)), ρ, w)
  | _ => none
def drT (f : W → Bool) (fo : M RV) : M Bool := bindM fo fun r => fun ρ w => match r with
  | .sh .draw => some (f w, ρ, w)
  | _ => none
def drPop (fo : M RV) : M RV := bindM fo fun r => fun ρ w => match r with
  | .sh .draw => (match w.wide with
    | x :: xs => if xs.length < 1000000 then some (.sh (.int x), ρ, { w with wide := xs }) else none
    | [] => none)
  | _ => none
def drC (fo : M RV) : M (List D) := bindM fo fun r => fun ρ w => match r with
  | .sh .draw => some (w.cells.map D.int, ρ, w)
  | _ => none
def drSet (f : W → Int → W) (fv fo : M RV) : M Fl := bindM fv fun r1 => bindM fo fun r => fun ρ w => match r1, r with
  | .sh (.int i), .sh .draw => some (.nx, ρ, f w i)
  | _, _ => none
section
variable {X : Cx} {o e : Expr} {pos p pos' apos cpos : Pos} {j1 j2 k : Nat} {fo fe : M RV} {tg : Expr}
theorem fe_drI {key : Str} {f : W → Int} (hr : Room k X.A) (ho : FE X o fo) (hv : ∀ a b w, valV (drK a b w) (.inr key) = some (.int (f w)))
    (hs : NoSl (.Constant (.str key) j1 p) := by intro _ _; rfl) : FE X (.Subscript o (.Constant (.str key) j1 p) pos) (drI f fo) := fun F => PE.wk (pe_dget (hu_of hr) (ho F) pe_str hs) fun σ H Q q => by
  obtain ⟨O, ρ, w, r, ρ', w', S, e, kq⟩ := q
  refine tE_then S e fun x O1 ρ1 w1 H1 r1 S1 e1 R1 h1 => ?_
  split at h1
  · cases h1
    obtain ⟨t, _, rfl, q1, _⟩ := draw_of S1 R1
    refine ⟨t.1, .int (f w'), rfl, ?_, kq _ O1 H1 S1 e1 (.int _)⟩
    rw [← hv t.2.1 t.2.2 w']
    exact DGet.k (k := .inr key) q1
  · cases h1
theorem pe_drL {key : Str} {F : Fm} (hr : Room k X.A) (ho : FE X o fo) (hs : NoSl (.Constant (.str key) j1 p) := by intro _ _; rfl) : PE X (.Subscript o (.Constant (.str key) j1 p) pos) (tDGet (tE (ct X) F fo) (tC (.str key))) := pe_dget (hu_of hr) (ho F) pe_str hs
/-- d['wide'] != [] -/
theorem ft_drWide (hr : Room k X.A) (ho : FE X o fo) (hs : NoSl (.Constant (.str "wide") j1 p) := by intro _ _; rfl) : FT X (.Compare (.Subscript o (.Constant (.str "wide") j1 p) pos') [.NotEq] [.List [] apos] pos) (drT (fun w => !w.wide.isEmpty) fo) := fun F =>
  PT.wk (pt_cmpR (op_neD hr.units) (pe_drL hr ho hs) (pe_lst pa_nil) rfl) fun σ H Q q => by
  obtain ⟨O, ρ, w, r, ρ', w', S, e, kq⟩ := q
  refine tE_then S e fun x O1 ρ1 w1 H1 r1 S1 e1 R1 h1 => ?_
  split at h1
  · cases h1
    obtain ⟨t, _, rfl, q1, q2, _⟩ := draw_of S1 R1
    refine ⟨t.1, .ref t.2.1, rfl, DGet.k (k := .inr "wide") q1, small_fits (Nat.zero_le _), fun p np => ?_⟩
    have x2 : Ex H1 (upd H1 p (.lst [])) := Ex.new np
    have dp : ∀ ns : List Int, DpAll X.K (upd H1 p (.lst [])) (ns.map V.int) (ns.map PyData.int) := fun ns => by
      induction ns with
      | nil => exact .nil
      | cons n ns ih => exact .cons (.int n) ih
    have sh : ∀ ns : List Int, SeqAt.shaped (.list (ns.map PyData.int)) = true := fun ns => by
      have h1 : ∀ ns : List Int, PyData.canLayAll0 (ns.map PyData.int) = true := fun ns => by
        induction ns with
        | nil => rfl
        | cons n ns ih => simpa [PyData.canLayAll0, PyData.canLay0] using ih
      have h2 : ∀ ns : List Int, PyData.depthAll (ns.map PyData.int) = 0 := fun ns => by
        induction ns with
        | nil => rfl
        | cons n ns ih => simp [PyData.depthAll, PyData.depth, ih]
      unfold SeqAt.shaped
      simp [PyData.canLay0, h1, PyData.depth, h2]
    refine ⟨.list (w'.wide.map PyData.int), .list [], .lst (.inl (.inl (x2 _ _ q2))) (dp _), .lst (.inl (.inl upd_same)) .nil, sh _, sh [], _, rfl, ?_⟩
    have eb : (!PyData.eqv (.list (w'.wide.map PyData.int)) (.list [])) = !w'.wide.isEmpty := by
      cases w'.wide with
      | nil => rfl
      | cons n ns => rfl
    rw [eb]
    exact kq O1 _ (S1.grow x2) (e1.trans (vis_mono x2))
  · cases h1
/-- d['wide'].pop(0) -/
theorem fe_drPop (hr : Room k X.A) (ho : FE X o fo) (hs : NoSl (.Constant (.str "wide") j1 p) := by intro _ _; rfl)
    (hbase : attributeBase (.Subscript o (.Constant (.str "wide") j1 p) pos) "pop" X.env (eval (.Subscript o (.Constant (.str "wide") j1 p) pos) X.env) = eval (.Subscript o (.Constant (.str "wide") j1 p) pos) X.env := by rfl)
    (hfew : ((backTo cpos (starEach [.Constant (.int 0) j2 pos'] X.env)).all (fun x => !x.1) && (backToKw cpos (keywordEach [] X.env)).all (fun x => x.1.isSome) && decide ([Expr.Constant (.int 0) j2 pos'].length + ([] : List Keyword).length + (if ([] : List Keyword).isEmpty then 0 else 1) < 30)) = true := by rfl)
    (hline : (apos.endLine == cpos.line) = true := by rfl) (hst : starEach [.Constant (.int 0) j2 pos'] X.env = (false, eval (.Constant (.int 0) j2 pos') X.env) :: starEach [] X.env := by rfl) :
    FE X (.Call (.Attribute (.Subscript o (.Constant (.str "wide") j1 p) pos) "pop" apos) [.Constant (.int 0) j2 pos'] [] cpos) (drPop fo) := fun F =>
  PE.wk (pe_bm PySem.F.plainAttrs_list PySem.F.slot_list_pop PySem.F.type_list_pop mt_popAt (pe_drL hr ho hs) (pa_cons pe_int pa_nil hst) hbase hfew hline hst) fun σ H Q q => by
  obtain ⟨O, ρ, w, r, ρ', w', S, e, kq⟩ := q
  refine tE_then S e fun x O1 ρ1 w1 H1 r1 S1 e1 R1 h1 => ?_
  split at h1
  · split at h1
    · rename_i n ns ew
      split at h1
      · rename_i hl
        cases h1
        obtain ⟨t, et, rfl, q1, q2, q3, q4⟩ := draw_of S1 R1
        rw [ew] at q2
        refine ⟨t.1, .ref t.2.1, rfl, DGet.k (k := .inr "wide") q1, .inl ⟨rfl, _, .inl (.inl q2)⟩, t.2.1, (n :: ns).map V.int, 0, 0, .int n, rfl, rfl, q2, by decide, by decide, seqIndex_of (by decide) (by simp <;> omega), rfl, ?_⟩
        have n1 : t.1 ≠ t.2.1 := fun z => by
          rw [z, q2] at q1
          cases q1
        have kp : Kp F.dr H1 (upd H1 t.2.1 (.lst (((n :: ns).map V.int).eraseIdx 0))) := fun b u hb nb => by
          have z : b ≠ t.2.1 := fun z => nb (by rw [z]; exact Dr.mem2 et)
          rw [upd_ne z]
          exact hb
        have dw : DrawAt F.dr { w1 with wide := ns } (upd H1 t.2.1 (.lst (((n :: ns).map V.int).eraseIdx 0))) := by
          refine ⟨fun t' e' => ?_, tabs_upd S1.draw.d.2 (fun p hp z => ?_) q2 (fun _ z => nomatch z)⟩
          · rw [et] at e'
            cases e'
            exact ⟨by rw [upd_ne n1]; exact q1, by rw [upd_same]; rfl, by rw [upd_ne (Ne.symm q4.1)]; exact q3, q4⟩
          · obtain ⟨ps, hp', _⟩ := S1.draw.d.2 p hp
            rw [z, q2] at hp'
            cases hp'
        exact kq _ O1 _ (S1.kept kp (S1.draw.wr dw rfl (vis_kp S1.drO kp) fun b hb u hu => by
          rw [upd_ne fun z => (S1.draw.s.dj b hb).1 (by rw [z]; simp [Dr.ds, et])]
          exact hu)) (e1.trans (vis_kp S1.drO kp)) (.int _)
      · cases h1
    · cases h1
  · cases h1
/-- for .. in d['cells'] -/
theorem fi_drC (hr : Room k X.A) (ho : FE X o fo) (hs : NoSl (.Constant (.str "cells") j1 p) := by intro _ _; rfl) : FI X tg (.Subscript o (.Constant (.str "cells") j1 p) pos) (drC fo) := fun F => ⟨fun pins s σ H R I q => by
  obtain ⟨O, ρ, w, ds, ρ', w', S, e, kq⟩ := q
  refine (pi_list (pe_drL (F := F) hr ho hs)).run pins s σ H R I ?_
  refine tE_then S e fun x O1 ρ1 w1 H1 r1 S1 e1 R1 h1 => ?_
  split at h1
  · cases h1
    obtain ⟨t, et, rfl, q1, q2, q3, q4, q5⟩ := draw_of S1 R1
    refine ⟨t.1, .ref t.2.2, rfl, DGet.k (k := .inr "cells") q1, t.2.2, rfl, ⟨_, .inl (.inl q3)⟩, kq _ O1 H1 S1 e1 fun i O H e tr hc => ?_⟩
    have s' : SqL X.K H t.2.2 (w'.cells.map V.int) := .inl (.inl (by rw [q5]; exact hc t et))
    refine ⟨fun d h => ?_, fun h => ⟨_, s', by simpa using Nat.le_of_eq h⟩⟩
    rw [List.getElem?_map] at h
    cases q : w'.cells[i]? with
    | none =>
      rw [q] at h
      cases h
    | some n =>
      rw [q] at h
      cases h
      have hv : (w'.cells.map V.int)[i]? = some (.int n) := by rw [List.getElem?_map, q]; rfl
      refine ⟨⟨_, .int n, s', hv⟩, fun x H' y => ?_⟩
      obtain ⟨rfl, y⟩ := y
      have z := y _ s'
      rw [hv] at z
      cases z
      exact ⟨Ex.refl _, .int _⟩
  · cases h1⟩
/-- d[key] = e -/
theorem fs_drSet {key : Str} {f : W → Int → W} (hr : Room k X.A) (ho : FE X o fo) (he : FE X e fe)
    (hf : ∀ a b w i, putK (drK a b w) (.inr key) (V.int i) = drK a b (f w i) ∧ (f w i).wide = w.wide ∧ (f w i).cells = w.cells ∧ (f w i).st = w.st)
    (hs : swapsWith e (some (.Subscript o (.Constant (.str key) j1 p) pos')) pos.line X.env = pure false := by rfl) : FS X (.Assign [.Subscript o (.Constant (.str key) j1 p) pos'] e pos) (drSet f fe fo) := fun F =>
  PS.wk (ps_dput (hu_of hr) (ho F) pe_str (he F) hs) fun E σ H q => by
  obtain ⟨O, ρ, w, fl, ρ', w', S, e, kq⟩ := q
  refine tE_then S e fun v O1 ρ1 w1 H1 r1 S1 e1 R1 h1 => ?_
  refine tE_then S1 h1 fun x O2 ρ2 w2 H2 r2 S2 e2 R2 h2 => ?_
  split at h2
  · rename_i i
    cases h2
    cases R1
    obtain ⟨t, et, rfl, q1, q2, q3, q4⟩ := draw_of S2 R2
    obtain ⟨f1, f2, f3, f4⟩ := hf t.2.1 t.2.2 w2 i
    refine ⟨t.1, _, rfl, DPut.k (k := .inr key) q1 (show 4 < sizeLine by decide), ?_⟩
    rw [f1]
    have n1 : t.2.1 ≠ t.1 := fun z => by
      rw [z, q1] at q2
      cases q2
    have n2 : t.2.2 ≠ t.1 := fun z => by
      rw [z, q1] at q3
      cases q3
    have kp : Kp F.dr H2 (upd H2 t.1 (.dK (drK t.2.1 t.2.2 (f w2 i)))) := fun b u hb nb => by
      have z : b ≠ t.1 := fun z => nb (by rw [z]; exact Dr.mem1 et)
      rw [upd_ne z]
      exact hb
    have dw : DrawAt F.dr (f w2 i) (upd H2 t.1 (.dK (drK t.2.1 t.2.2 (f w2 i)))) := by
      refine ⟨fun t' e' => ?_, tabs_upd S2.draw.d.2 (fun p hp z => ?_) q1 (fun _ z => nomatch z)⟩
      · rw [et] at e'
        cases e'
        exact ⟨upd_same, by rw [upd_ne n1, f2]; exact q2, by rw [upd_ne n2, f3]; exact q3, q4.1, by rw [f3]; exact q4.2⟩
      · obtain ⟨ps, hp', _⟩ := S2.draw.d.2 p hp
        rw [z, q1] at hp'
        cases hp'
    exact kq _ O2 _ (S2.kept kp (S2.draw.wr dw f4 (vis_kp S2.drO kp) fun b hb u hu => by
      rw [upd_ne fun z => (S2.draw.s.dj b hb).1 (by rw [z]; simp [Dr.ds, et])]
      exact hu)) ((e1.trans e2).trans (vis_kp S2.drO kp))
  · cases h2
end
end FD

end sec_FD14
section sec_FD15
set_option maxRecDepth 100000
set_option maxHeartbeats 5000000
/-! FD15: more of arithmetic; the def that begins the draws; the law. -/
namespace FD
open PySem L2
variable [Tabl]
open PyProof.Rows (envOfC)
section
variable {X : Cx}
def powI (i j : Int) : Option RV := if 0 ≤ j ∧ j ≤ 1000000 ∧ i.natAbs < 2 ^ 64 then some (.sh (.int (i ^ j.toNat))) else none
theorem opD_pow : OpR X (binaryOp .Pow) (rP2 (ct X) (intD powI)) := opD_int op_pow fun i j r e => by
  unfold powI at e
  split at e
  · rename_i h
    cases e
    exact ⟨h, _, rfl, fun _ _ _ => .int _⟩
  · cases e
def negD : D → Option RV
  | .int i => some (.sh (.int (-i)))
  | _ => none
theorem unD_neg : UnR X (unaryOp .USub) (rP1 (ct X) negD) := by
  intro pins s σ H x v Q I rx h
  obtain ⟨da, O, d1, r, hO, P, eg, q⟩ := h
  unfold negD at eg
  split at eg
  · cases eg
    exact un_neg pins s σ H x v Q I rx ⟨_, P.int, q _ _ (Ex.refl _) (.int _)⟩
  · cases eg
def absD : List D → Option RV
  | [.int i] => some (.sh (.int (if i < 0 then -i else i)))
  | _ => none
theorem bD_abs : CallR X (.builtin "abs") (rPure (ct X) absD) := by
  intro pins s σ H xs us Q I r h
  obtain ⟨da, O, ds, rv, hO, p, eg, q⟩ := h
  unfold absD at eg
  split at eg
  · cases eg
    obtain ⟨v, rfl, P⟩ := p.one
    obtain rfl := P.int
    exact call_abs pins s σ H _ us Q I r ⟨_, rfl, q _ _ (Ex.refl _) (.int _)⟩
  · cases eg
/-- {key: value}, both written -/
theorem fe_dicS {key : Str} {i : Int} {j1 j2 : Nat} {p1 p2 pos : Pos} : FE X (.Dict [some (.Constant (.str key) j1 p1)] [.Constant (.int i) j2 p2] pos) (pureM (.fr (.dic [(.str key, .int i)]))) := fun F => PE.wk (pe_disp (pps_cons pe_str pe_int pps_nil) rfl rfl (by simp) (by simp)) fun σ H Q h => by
  obtain ⟨O, ρ, w, r, ρ', w', S, e, k⟩ := h
  cases e
  intro p np
  refine ⟨upd_same, [(.inr key, .int i)], rfl, by simp, ?_⟩
  have e2 : upd (upd H p (.dK [])) p (.dK (mergeK [] [((.inr key : Key), V.int i)])) = upd H p (.dK [(.inr key, .int i)]) := by
    funext b
    by_cases z : b = p
    · rw [z, upd_same, upd_same]
      rfl
    · rw [upd_ne z, upd_ne z, upd_ne z]
  rw [e2]
  have x2 : Ex H (upd H p (.dK [(.inr key, .int i)])) := Ex.new np
  obtain ⟨S3, n3, k3⟩ := S.hide np x2 upd_same
  exact k _ O _ (S.grow x2) (vis_mono x2) ⟨p, _, rfl, n3, S3, upd_same, .inr (.inl ⟨[(.inr key, .int i)], [(.str key, .int i)], rfl, rfl, .cons (k := .inr key) (.int i) .nil⟩), k3⟩
end

/-! ### the def that begins the draws -/
def offD : Dr := ⟨none, [], [], fun _ => none⟩
def asInt : D → Option Int
  | .int i => some i
  | _ => none
def asInts : List D → Option (List Int)
  | [] => some []
  | d :: r => match asInt d with
    | some i => (asInts r).map (i :: ·)
    | none => none
theorem asInts_some : ∀ {ds : List D} {is : List Int}, asInts ds = some is → ds = is.map D.int
  | [], _, h => by
    cases h
    rfl
  | d :: r, _, h => by
    unfold asInts at h
    split at h
    · rename_i b e
      cases q : asInts r with
      | none =>
        rw [q] at h
        cases h
      | some bs =>
        rw [q] at h
        cases h
        rw [asInts_some q]
        unfold asInt at e
        split at e
        · cases e
          rfl
        · cases e
    · cases h
theorem asInts_map : ∀ (is : List Int), asInts (is.map D.int) = some is
  | [] => rfl
  | b :: r => by
    rw [List.map_cons]
    unfold asInts
    rw [asInts_map r]
    rfl
theorem ne_keys : ((("wide" : Str) = "cells") = False ∧ (("wide" : Str) = "rest") = False ∧ (("wide" : Str) = "turn") = False) ∧ ((("cells" : Str) = "rest") = False ∧ (("cells" : Str) = "turn") = False ∧ (("rest" : Str) = "turn") = False) := by
  refine ⟨⟨?_, ?_, ?_⟩, ?_, ?_, ?_⟩ <;> exact eq_false (by decide +kernel)
theorem merge4 (a b c d : V) : mergeK [] [((.inr "wide" : Key), a), (.inr "cells", b), (.inr "rest", c), (.inr "turn", d)] = [(.inr "wide", a), (.inr "cells", b), (.inr "rest", c), (.inr "turn", d)] := by
  obtain ⟨⟨h1, h2, h3⟩, h4, h5, h6⟩ := ne_keys
  simp [mergeK, putK, Sum.inr.injEq, h1, h2, h3, h4, h5, h6]
/-- the wide numbers and the cells that come of the script -/
def begD (n : Nat) (f1 : M Fl) (f2 : M RV) (i : Nat) (ns : List Int) : Option (List Int × List Int) := match f1 (startE n [.scr ns]) ⟨[], [], 0, 0, []⟩ with
  | some (.nx, ρ, w) => (match ownL ρ i, f2 ρ w with
    | some _, some (.fr (.lst cs), ρ2, _) => (match ownL ρ2 i with
      | some ws => (match asInts ws with
        | some wi => (match asInts cs with
          | some ci => some (wi, ci)
          | none => none)
        | none => none)
      | none => none)
    | _, _ => none)
  | _ => none
def spB (c : Ct) (beg : List Int → Option (List Int × List Int)) : Sp := fun vs H Q _ => ∃ a ns wi ci, vs = [.ref a] ∧ SqL c.K H a (ns.map V.int) ∧ LamX.Tabs Tabl.T H ∧ beg ns = some (wi, ci) ∧
  ∀ (t : Addr × Addr × Addr) H', H t.1 = none → H t.2.1 = none → H t.2.2 = none → Kp offD H H' → LamX.Tabs Tabl.T H' → H' t.1 = some (.dK (drK t.2.1 t.2.2 ⟨wi, ci, 0, 0, []⟩)) → H' t.2.1 = some (.lst (wi.map V.int)) → H' t.2.2 = some (.lst (ci.map V.int)) → t.2.1 ≠ t.2.2 → Q (.ref t.1) H'
section
variable {P : Program} {w : World} {K : PySem.W.Frag} {mg : Str → Option Value} {base : Heap}
theorem offD_as : offD.as = Tabl.T.map (·.1) := by simp [offD, Dr.as, Dr.ds]
theorem begun_ok {x qual : Str} {st : Stmt} {f : Addr} {fd : FuncData} {N ps : List Str} {k i : Nat} {f1 : M Fl} {f2 : M RV} {st1 : Stmt} {e2 : Expr} {y : Str} {j1 j2 j3 j4 j5 j6 : Nat} {q1 q2 q3 q4 q5 q6 q7 q8 q9 : Pos} (F : Fun K x qual st f fd) (S : FnScope N ps (defScope st)) (hps : ps.length = 1)
    (hbd : defBody st = [st1, .Return (some (.Dict [some (.Constant (.str "wide") j1 q1), some (.Constant (.str "cells") j2 q2), some (.Constant (.str "rest") j3 q3), some (.Constant (.str "turn") j4 q4)] [.Name y q5, e2, .Constant (.int 0) j5 q6, .Constant (.int 0) j6 q7] q8)) q9])
    (hb1 : ∀ (cdv : Value) (A : Around) (outer : List PySem.Env) (s : Shared) (H : Hp) (E : XK), Room k (A.deeper (envOfC qual (defScope st) s.heap.objs.size f cdv)) → FS (cxOf CX0 P w K mg base N qual (defScope st) f cdv A outer s H E).nox st1 f1)
    (hb2 : ∀ (cdv : Value) (A : Around) (outer : List PySem.Env) (s : Shared) (H : Hp) (E : XK), Room k (A.deeper (envOfC qual (defScope st) s.heap.objs.size f cdv)) → FE (cxOf CX0 P w K mg base N qual (defScope st) f cdv A outer s H E).nox e2 f2)
    (hy : N[i]? = some y) (hyv : Vis (defScope st) y) (hd : (y == ("__debug__" : Str)) = false) (hcd : (y == ("__classdict__" : Str)) = false) :
    FnOk P w K mg base CX0 (k + 1) f fd ps (spB ⟨K, mg⟩ (begD N.length f1 f2 i)) := by
  obtain ⟨oc, od, kV, doc, pm, an, cdv, ctt, osl, rfl, lk, hcdd⟩ := F.ex
  refine fn_of lk hcdd S (fun _ _ _ _ h => ?_) fun A outer s H vs Q E hr h => ?_
  · obtain ⟨a, ns, wi, ci, rfl, _⟩ := h
    rw [hps]
    rfl
  · obtain ⟨a, ns, wi, ci, rfl, hS, hT, hb, q⟩ := h
    rw [hbd]
    refine ⟨_, PSs.nox (pss_cons (hb1 cdv A outer s H E hr ⟨offD, Tabl.T.map (·.1), H⟩) (pss_one (ps_ret (pe_disp (pps_cons pe_str (pe_var (i := i) hy hyv hd hcd) (pps_cons pe_str (hb2 cdv A outer s H E hr ⟨offD, Tabl.T.map (·.1), H⟩) (pps_cons pe_str pe_int (pps_cons pe_str pe_int pps_nil)))) rfl rfl (by simp) (by simp))))), ?_⟩
    have d0 : DrawAt offD ⟨[], [], 0, 0, []⟩ H := ⟨(fun t e => nomatch (show (none : Option (Addr × Addr × Addr)) = some t from e)), hT⟩
    have ds0 : DS ⟨K, mg⟩ offD ⟨[], [], 0, 0, []⟩ (Tabl.T.map (·.1)) H := ⟨d0, Sto.nil rfl⟩
    have tr0 : ∀ a ∈ Tabl.T.map (·.1), ∃ o, H a = some o ∧ NT o := fun a ha => ds0.mem (by rw [offD_as]; exact ha)
    have nT : ∀ {b : Addr} {u : HO}, Rd H b u → (∀ ps, u ≠ .tbl ps) → b ∉ Tabl.T.map (·.1) := fun {b u} hr hn z => by
      obtain ⟨p, hp, rfl⟩ := List.mem_map.mp z
      obtain ⟨ps, e, _⟩ := hT p hp
      rcases hr with h | ⟨o, h⟩
      · rw [e] at h
        cases h
        exact hn _ rfl
      · rw [e] at h
        cases h
    have hS' : SqL K (vis (Tabl.T.map (·.1)) H) a (ns.map V.int) := by
      rcases hS with h | h
      · have na := nT h (fun _ z => nomatch z)
        rcases h with h | ⟨o, h⟩
        · exact .inl (.inl (by rw [vis_out na]; exact h))
        · exact .inl (.inr ⟨o, by rw [vis_out na]; exact h⟩)
      · exact .inr h
    have S0 : SR ⟨K, mg⟩ ⟨offD, Tabl.T.map (·.1), H⟩ (Tabl.T.map (·.1)) (startE N.length [.scr ns]) ⟨[], [], 0, 0, []⟩ (L2.start N [V.ref a]) H := start_sr (fun a ha => by rw [offD_as] at ha; exact ha) tr0 ds0 (.cons (.scr hS') .nil)
    unfold begD at hb
    split at hb
    · rename_i ρ1 w1 e1
      refine ⟨Tabl.T.map (fun x : Addr × Str => x.1), startE N.length [.scr ns], ⟨[], [], 0, 0, []⟩, .nx, ρ1, w1, S0, e1, fun σ1 O1 H1 S1 x1 => ?_⟩
      split at hb
      · rename_i ws0 cs ρ2 w2 e0 e2
        split at hb
        · rename_i ws e3
          split at hb
          · rename_i wi' e4
            split at hb
            · rename_i ci' e5
              cases hb
              obtain rfl := asInts_some e4
              obtain rfl := asInts_some e5
              intro p np
              have x2 : Ex H1 (upd H1 p (.dK [])) := Ex.new np
              have S2 := S1.grow x2
              have nO1 : p ∉ O1 := fun z => by
                obtain ⟨o, h, _⟩ := S1.trk p z
                rw [np] at h
                cases h
              obtain ⟨a1, xs1, g1, _, _⟩ := own_obj S2 e0
              have hp2 : vis O1 (upd H1 p (.dK [])) p = some (.dK []) := by rw [vis_out nO1]; exact upd_same
              refine ⟨.ref a1, g1, O1, ρ1, w1, .fr (.lst (ci.map D.int)), ρ2, w2, S2, e2, fun v O3 H3 S3 x3 R3 => ?_⟩
              obtain ⟨a2, o2, rfl, n2, S4, g2, ob, _⟩ := R3
              have hp3 : H3 p = some (.dK []) := vis_ex _ _ (x3 _ _ hp2)
              obtain ⟨a1', o1, k1, k2, k3, k4, k5⟩ := S3.own i _ (ownL_some e3)
              rw [g1] at k1
              cases k1
              have l1 : o1 = .lst (wi.map V.int) := by
                rcases k5 with ⟨xs, es, rfl, z, r⟩ | ⟨_, _, _, z, _⟩ | ⟨_, _, _, z, _⟩ | ⟨_, _, _, _, _, _, z, _⟩
                · cases z
                  rw [r.ints_inv]
                · cases z
                · cases z
                · cases z
              have l2 : o2 = .lst (ci.map V.int) := by
                rcases ob with ⟨xs, es, rfl, z, r⟩ | ⟨_, _, _, z, _⟩ | ⟨_, _, _, z, _⟩ | ⟨_, _, _, _, _, _, z, _⟩
                · cases z
                  rw [r.ints_inv]
                · cases z
                · cases z
                · cases z
              subst l1
              subst l2
              have n12 : a1 ≠ a2 := fun z => n2 (z ▸ k2)
              have np1 : a1 ≠ p := fun z => by
                rw [z, hp3] at k4
                cases k4
              have np2 : a2 ≠ p := fun z => by
                rw [z, hp3] at g2
                cases g2
              refine ⟨hp3, [(.inr "wide", .ref a1), (.inr "cells", .ref a2), (.inr "rest", .int 0), (.inr "turn", .int 0)], rfl, by simp, ?_⟩
              rw [merge4]
              have hp0 : H p = none := by
                cases z : H p with
                | none => rfl
                | some o =>
                  by_cases m : p ∈ offD.as
                  · obtain ⟨o', z', _⟩ := S1.trk p (S1.sub p (S1.drs p m))
                    rw [np] at z'
                    cases z'
                  · have z' := S1.base p o z m
                    rw [np] at z'
                    cases z'
              refine q (p, a1, a2) _ hp0 (S3.new a1 k2 k3) (S4.new a2 List.mem_cons_self fun z => n2 (S3.sub a2 z)) (fun b o hb nb => ?_) (tabs_upd S3.draw.d.2 (fun t ht z => ?_) hp3 (fun _ z => nomatch z)) upd_same (by rw [upd_ne np1]; exact k4) (by rw [upd_ne np2]; exact g2) n12
              · have z1 := S1.base b o hb nb
                rw [upd_ne (ne_of_none z1 np)]
                exact S3.base b o hb nb
              · obtain ⟨ps, hp', _⟩ := S3.draw.d.2 t ht
                rw [z, hp3] at hp'
                cases hp'
            · cases hb
          · cases hb
        · cases hb
      · cases hb
    · cases hb
end
end FD

end sec_FD15
section sec_LG
set_option maxRecDepth 100000
set_option maxHeartbeats 5000000
/-! LG: a def that is run where no repr is under way, and the law as such a def. -/
namespace LG
open PySem PySem.Spec PyProof.Rows L2 LamX
section
variable {P : Program} {w : World} {K : PySem.W.Frag} {mg mb : Str → Option Value} {base : Heap}
/-- what f promises to a caller that stands in A -/
def Runs (P : Program) (w : World) (K : PySem.W.Frag) (mg : Str → Option Value) (base : Heap) (A : Around) (f : Addr) (fd : FuncData) (ps : List Str) (sp : Sp) : Prop :=
  ∀ (outer : List Env) (s : Shared) (H : Hp) (args : Args) (us : List Value) (vs : List V) (Q : VK) (E : XK),
    Env0 P w K mg base A outer s H → BindsTo s fd args (ps.zip us) → Vals vs us → sp vs H Q E → codeAny (model P w) A (.call (.ref f) args) (CR CX0 outer P w H s Q E) s
structure FnG (P : Program) (w : World) (K : PySem.W.Frag) (mg : Str → Option Value) (base : Heap) (k : Nat) (f : Addr) (fd : FuncData) (ps : List Str) (sp : Sp) : Prop where
  len : ∀ vs H Q E, sp vs H Q E → vs.length = ps.length
  runs : ∀ A, Room k A → A.guards = some [] → Runs P w K mg base A f fd ps sp
theorem runs_of {A : Around} {k : Nat} {f : Addr} {name qual : Str} {params : Arguments} {body : List Stmt} {scope : Scope} {dV kV doc pm cdv ct oc : Value} {an od : Option Addr} {osl : Array (Option Value)} {N ps : List Str} {sp : Sp}
    (lk : K.lookup f = some ⟨oc, od, .func (PySem.W.fnOf name qual params body scope dV kV doc pm an cdv ct), osl⟩) (code : PySem.W.codeIn K cdv qual = true) (S : FnScope N ps scope) (len : ∀ vs H Q E, sp vs H Q E → vs.length = ps.length) (room : Room (k + 1) A)
    (go : ∀ (outer : List Env) (s : Shared) (H : Hp) (vs : List V) (Q : VK) (E : XK), sp vs H Q E → ∃ t, PSs (cxOf CX0 P w K mg base N qual scope f cdv A outer s H E) body t ∧ t { nx := fun _ H2 => Q .non H2, rt := Q } (L2.start N vs) H) :
    Runs P w K mg base A f (PySem.W.fnOf name qual params body scope dV kV doc pm an cdv ct) ps sp := by
  intro outer s H args us vs Q E e0 bt rel sat
  obtain ⟨t, good, pre⟩ := go outer s H vs Q E sat
  have stays : ∀ b o, base.get? b = some o → s.heap.get? b = some o := fun b o q => (e0.bs b o q).1
  have inK := e0.mod.kin.keeps stays
  apply codeAny_call_function room.depth (inK f _ lk) rfl S.co S.gen rfl (PySem.W.codeRec_of inK code)
  apply bt
  refine wpAny_newFunctionEnv_cells S.kind ?par ?run
  case par =>
    intro q hq
    cases S.par q.1 (List.of_mem_zip hq).1 with
    | inl z => exact Or.inl z
    | inr z => exact Or.inr ⟨z, PySem.W.cellsFrom_some _ _ _ (Or.inl z)⟩
  case run =>
    intro env he s1 made
    cases he
    constructor
    · exact (e0.mod.nolimit.keeps stays).keeps made.toInCall.keep
    apply codeAny_func
    apply wpAny_mono (good.run [] s1 _ H _ (inv_start S room.hd e0 (len _ _ _ _ sat) rel made) pre)
    · intro fl s2 out
      match fl, out with
      | .ret u, ⟨v, _, H2, J, rv, q⟩ => exact ⟨v, H2, J.os, J.bare, J.base, J.hok, rv, q⟩
      | .next, ⟨_, H2, J, q⟩ => exact ⟨V.non, H2, J.os, J.bare, J.base, J.hok, (rfl : RelV V.non Value.none), q⟩
      | .brk, ⟨_, _, _, q⟩ => exact absurd q id
      | .cont, ⟨_, _, _, q⟩ => exact absurd q id
    · intro _ _ z
      exact z
/-! ### the state in which the law is called -/
/-- a table of code objects that is still empty -/
abbrev tabO : Obj := { cls := .none, data := .fields #[] }
abbrev lstO (vs : List Value) : Obj := { cls := .type "list", data := .seq vs.toArray }
structure Stage (P : Program) (w : World) (K : PySem.W.Frag) (mg mb : Str → Option Value) (cs : List (Addr × Addr)) (s : Shared) (a : Addr) (vs : List Value) (ns : List Int) : Prop where
  frag : K.In s.heap
  main : s.heap.Ns mainGlobals mg
  blt : s.heap.Ns builtinsNs mb
  boot : ∀ x : Str, x ≠ "__name__" → mb x = bootBuiltins x
  lim : s.heap.NoLimit
  gens : s.gens = #[]
  tab : ∀ p ∈ cs, s.heap.get? p.2 = some tabO
  out : ∀ p ∈ cs, K.lookup p.2 = none
  codes : ∀ p ∈ cs, PySem.W.CodeHd s.heap p.1 p.2
  bm : ∃ (bm : Addr) (ob : Obj), mg "__builtins__" = some (.ref bm) ∧ bm ≠ builtinsNs ∧ s.heap.get? bm = some ob ∧ ob.cls = .type "module" ∧ ob.dict = some builtinsNs ∧ ob.data = .plain
  lst : s.heap.get? a = some (lstO vs)
  nums : IntsAre vs ns
  most : ns.length ≤ sizeLine
/-- what is tracked at the start: the tables, and the script unless it is a constant -/
def seen (K : PySem.W.Frag) (cs : List (Addr × Addr)) (a : Addr) (vs : List Value) (ns : List Int) : Hp := fun b =>
  if (cs.any fun p => p.2 == b) = true then some (.tbl #[]) else if b = a ∧ (K.lookup a).isNone = true then some (.frz (lstO vs) (.lst (ns.map V.int))) else none
def tracksData : Data → Bool
  | .seq _ _ => true
  | .fields vs => vs.isEmpty
  | _ => false
variable {cs : List (Addr × Addr)} {s : Shared} {a : Addr} {vs : List Value} {ns : List Int}
theorem anyT {b : Addr} : (cs.any fun p => p.2 == b) = true ↔ ∃ p ∈ cs, p.2 = b := by simp [List.any_eq_true]
theorem seen_inv {b : Addr} {u : HO} (h : seen K cs a vs ns b = some u) : ((∃ p ∈ cs, p.2 = b) ∧ u = .tbl #[]) ∨ (b = a ∧ K.lookup a = none ∧ u = .frz (lstO vs) (.lst (ns.map V.int))) := by
  unfold seen at h
  split at h
  · rename_i z
    cases h
    exact Or.inl ⟨anyT.mp z, rfl⟩
  · split at h
    · rename_i z
      cases h
      exact Or.inr ⟨z.1, Option.isNone_iff_eq_none.mp z.2, rfl⟩
    · cases h
theorem seen_tab {p : Addr × Addr} (hp : p ∈ cs) : seen K cs a vs ns p.2 = some (.tbl #[]) := if_pos (anyT.mpr ⟨p, hp, rfl⟩)
namespace Stage
variable (Z : Stage P w K mg mb cs s a vs ns)
include Z
theorem obj {b : Addr} {u : HO} (h : seen K cs a vs ns b = some u) : ∃ o, s.heap.get? b = some o ∧ tracksData o.data = true ∧ K.lookup b = none := by
  cases seen_inv h with
  | inl z =>
    obtain ⟨⟨p, hp, rfl⟩, _⟩ := z
    exact ⟨tabO, Z.tab p hp, rfl, Z.out p hp⟩
  | inr z => exact ⟨lstO vs, by rw [z.1]; exact Z.lst, rfl, by rw [z.1]; exact z.2.1⟩
theorem off {b : Addr} {o : Obj} (e : s.heap.get? b = some o) (n : tracksData o.data = false) : seen K cs a vs ns b = none := by
  match q : seen K cs a vs ns b with
  | none => rfl
  | some u =>
    obtain ⟨o2, e2, t2, _⟩ := Z.obj q
    rw [e] at e2
    injection e2 with e2
    rw [e2, t2] at n
    cases n
theorem low {b : Addr} {o : Obj} (e : s.heap.get? b = some o) (n : tracksData o.data = false) : (hidT s.heap (seen K cs a vs ns)).get? b = some o := hidT_get e (Z.off e n)
theorem lowNs {b : Addr} {m : Str → Option Value} (h : s.heap.Ns b m) : (hidT s.heap (seen K cs a vs ns)).Ns b m := by
  obtain ⟨o, es, ep, e, d, rest⟩ := h
  exact ⟨o, es, ep, Z.low e (by rw [d]; rfl), d, rest⟩
theorem lowK : K.In (hidT s.heap (seen K cs a vs ns)) := by
  intro b o e
  apply hidT_get (Z.frag b o e)
  match q : seen K cs a vs ns b with
  | none => rfl
  | some u =>
    obtain ⟨_, _, _, n⟩ := Z.obj q
    rw [n] at e
    cases e
theorem lowMod : L2.Mod K mg (hidT s.heap (seen K cs a vs ns)) := by
  obtain ⟨mc, l1, l2⟩ := Z.lim
  exact ⟨Z.lowK, Z.lowNs Z.main, ⟨mb, Z.lowNs Z.blt, Z.boot⟩, ⟨mc, Z.lowNs l1, l2⟩⟩
theorem lowTab {p : Addr × Addr} (hp : p ∈ cs) : TabB (hidT s.heap (seen K cs a vs ns)) mg p.1 p.2 := by
  obtain ⟨om, em, pm, eM, dM, _⟩ := Z.main
  have tp := Z.tab p hp
  refine ⟨?code, ?bm, ?ne⟩
  case code =>
    obtain ⟨o, us, x1, x2, x3, x4, x5, x6, x7, e, c1, c2, c3, rest⟩ := Z.codes p hp
    refine ⟨o, us, x1, x2, x3, x4, x5, x6, x7, Z.low e ?_, c1, c2, c3, rest⟩
    rw [c2]
    show us.isEmpty = false
    have : 11 < us.size := (Array.getElem?_eq_some_iff.mp c3).1
    rw [Array.isEmpty, decide_eq_false_iff_not]
    omega
  case bm =>
    obtain ⟨bm, ob, b1, b2, b3, b4, b5, b6⟩ := Z.bm
    refine ⟨bm, ob, b1, b2, ?_, ?_, Z.low b3 (by rw [b6]; rfl), b4, b5, b6⟩
    · rintro rfl
      rw [eM] at b3
      injection b3 with b3
      rw [← b3, dM] at b6
      cases b6
    · rintro rfl
      rw [tp] at b3
      injection b3 with b3
      rw [← b3] at b6
      cases b6
  case ne =>
    intro z
    rw [z, tp] at eM
    injection eM with eM
    rw [← eM] at dM
    cases dM
theorem heapOk : HOk P w (seen K cs a vs ns) s.heap := by
  intro b u h
  cases seen_inv h with
  | inl z =>
    obtain ⟨⟨p, hp, rfl⟩, rfl⟩ := z
    exact Z.tab p hp
  | inr z =>
    obtain ⟨rfl, _, rfl⟩ := z
    exact ⟨Z.lst, by simpa using Z.most, vs, _, vals_ints Z.nums, Z.lst⟩
theorem script : SqL K (seen K cs a vs ns) a (ns.map V.int) := by
  match q : K.lookup a with
  | none =>
    refine Or.inl (Or.inr ⟨lstO vs, ?_⟩)
    unfold seen
    rw [if_neg, if_pos ⟨rfl, by rw [q]; rfl⟩]
    intro z
    obtain ⟨p, hp, rfl⟩ := anyT.mp z
    have := Z.lst
    rw [Z.tab p hp] at this
    cases this
  | some o =>
    have e := Z.frag a o q
    rw [Z.lst] at e
    injection e with e
    subst e
    exact Or.inr ⟨_, vs.toArray, _, q, rfl, rfl, rfl, by simpa [Z.nums.length] using Z.most, by simpa using vals_ints Z.nums⟩
theorem env : Env0 P w K mg (hidT s.heap (seen K cs a vs ns)) callerA [] s (seen K cs a vs ns) where
  frames := rfl
  mod := Z.lowMod
  bs := fun b o e => of_hidT e
  bsz := Nat.le_of_eq (hidT_size _ _)
  funs := trivial
  frf := by
    intro b hb
    cases hb
  hok := Z.heapOk
  bare := .of_eq Z.gens
/-- the law, called: nothing that stood there is changed but the tables, which grow -/
theorem called {k : Nat} {fa : Addr} {fd : FuncData} {x : Str} {sp : Sp} (room : Room k callerA) (F : FnG P w K mg (hidT s.heap (seen K cs a vs ns)) k fa fd [x] sp)
    (hb : ∀ (s : Shared) (u : Value), BindsTo s fd ⟨[u], []⟩ [(x, u)]) (sat : ∀ H : Hp, (∀ p ∈ cs, H p.2 = some (.tbl #[])) → SqL K H a (ns.map V.int) → sp [.ref a] H (fun v _ => v = .bl true) fun _ _ _ => False) :
    codeAny (model P w) callerA (.call (.ref fa) ⟨[.ref a], []⟩) (fun r s2 => r = .ok (.ret (.bool true)) ∧ OldK s.heap s2.heap ∧ s2.os = s.os ∧ AllBare s2.gens) s := by
  have go := F.runs callerA room rfl [] s _ ⟨[.ref a], []⟩ [.ref a] [.ref a] _ _ Z.env (hb s (.ref a)) (.cons rfl .nil) (sat _ (fun p hp => seen_tab hp) Z.script)
  apply codeAny_mono go
  intro r s2 end2
  match r, end2 with
  | .error _, z => exact absurd z id
  | .ok .next, z => exact absurd z id
  | .ok .brk, z => exact absurd z id
  | .ok .cont, z => exact absurd z id
  | .ok (.ret u), ⟨v, H2, os, bare, un, hok, rv, q⟩ =>
    have q : v = .bl true := q
    rw [q] at rv
    have ru : u = Value.bool true := rv
    have grown : ∀ p ∈ cs, ∃ more : Array Value, s2.heap.get? p.2 = some { cls := .none, data := .fields more } := fun p hp => by
      obtain ⟨more, z⟩ := un.tbls p.2 #[] (seen_tab hp)
      exact ⟨_, hok p.2 _ z⟩
    have same : ∀ b o, (¬ ∃ p ∈ cs, p.2 = b) → s.heap.get? b = some o → s2.heap.get? b = some o := fun b o nb e => by
      match t : seen K cs a vs ns b with
      | none => exact un.keep b o e t (by intro z; cases z) (by intro z; cases z)
      | some u2 =>
        cases seen_inv t with
        | inl z => exact absurd z.1 nb
        | inr z =>
          obtain ⟨rfl, _, rfl⟩ := z
          have f1 := (Z.heapOk _ _ t).1
          have f2 := (hok _ _ (un.frzs _ _ _ t)).1
          rw [e] at f1
          rw [f1]
          exact f2
    refine ⟨by rw [ru], ⟨fun b o e => ?_, fun b o e => ?_⟩, os, bare⟩
    · by_cases hb : ∃ p ∈ cs, p.2 = b
      · obtain ⟨p, hp, rfl⟩ := hb
        obtain ⟨new, hm⟩ := grown p hp
        rw [Z.tab p hp] at e
        injection e with e
        subst e
        refine Or.inr (Or.inl ⟨((Z.codes p hp).tab (Z.tab p hp)).isCodeTable, rfl, #[], new, rfl, ?_⟩)
        rw [Array.empty_append]
        exact hm
      · exact Or.inl (same b o hb e)
    · by_cases hb : ∃ p ∈ cs, p.2 = b
      · obtain ⟨p, hp, rfl⟩ := hb
        obtain ⟨new, hm⟩ := grown p hp
        exact ⟨_, hm⟩
      · exact ⟨o, same b o hb e⟩
end Stage
end
/-- a script of at most n numbers, none of them beyond the bits -/
def ScriptOk (n : Nat) (ns : List Int) : Prop := ns.length ≤ n ∧ ∀ z ∈ ns, Builtin.Int.intBits z ≤ 1048576
/-- a dict that is none of ours stands at the place of sys.modules -/
def SmAt (base : Heap) : Prop := ∃ o es ep, base.get? sysModules = some o ∧ o.data = .dict es ep
/-- the same for a law that asks for the repr of what holds dicts -/
def LawS (l : PySem.W.OpenLaw) (w : World) (K : PySem.W.Frag) (k n : Nat) (x : Str) (mg : Str → Option Value) (fa : Addr) (h : Heap) : Prop :=
  ∃ (fd : FuncData) (cs : List (Addr × Addr)) (sp : Sp), (∀ p ∈ cs, h.get? p.2 = some tabO ∧ K.lookup p.2 = none ∧ PySem.W.CodeHd h p.1 p.2) ∧ (∀ (s : Shared) (u : Value), BindsTo s fd ⟨[u], []⟩ [(x, u)]) ∧
    (∀ (H : Hp) (a : Addr) (ns : List Int), ScriptOk n ns → (∀ p ∈ cs, H p.2 = some (.tbl #[])) → SqL K H a (ns.map V.int) → sp [.ref a] H (fun v _ => v = .bl true) fun _ _ _ => False) ∧
    ∀ base : Heap, K.In base → base.Ns mainGlobals mg → SmAt base → (∀ p ∈ cs, TabB base mg p.1 p.2) → FnG l.prog w K mg base k fa fd [x] sp
theorem walkS {l : PySem.W.OpenLaw} {n k : Nat} {q : Program} {loose : List Str} {XP : (Str → Option Value) → Heap → Prop} {YP : World → Heap → Prop} {d : DefRec} {K : Params → PySem.W.Frag} {x : Str} (most : l.most = some n) (small : n ≤ sizeLine)
    (plain : d.params.defaults = []) (room : Room k callerA) (frag : ∀ (w : World) (h : Heap), YP w h → (K w.params).In h) (still : importsNone q = true)
    (row : ∀ (w : World) (mg : Str → Option Value) (fa : Addr) (h : Heap), YP w h → (K w.params).In h → h.Ns mainGlobals mg → mg d.name = some (.ref fa) → LawS l w (K w.params) k n x mg fa h) :
    PySem.W.WalkO q loose XP YP l.row.toRowW d [] fun g us => PySem.call g us := by
  apply Att.attach_callB most plain
  intro w s0 s mg mb fa o pm cd doc a vs ns G Y _ _ _ name lst nums len bits gens
  obtain ⟨fd, cs, sp, hcs, hb, sat, F⟩ := row w mg fa _ Y (frag w _ Y) G.T.g name
  have Z : Stage l.prog w (K w.params) mg mb cs s a vs ns := ⟨frag w _ Y, G.T.g, G.T.b, G.T.builtins, G.T.nolimit, gens, fun p hp => (hcs p hp).1, fun p hp => (hcs p hp).2.1, fun p hp => (hcs p hp).2.2, G.T.bmain, lst, nums, Nat.le_trans len small⟩
  obtain ⟨mm, hm, _⟩ := (G.T.seer still).mods
  have sm : SmAt (hidT s.heap (seen (K w.params) cs a vs ns)) := by
    obtain ⟨o, es, ep, e, d, _⟩ := Z.lowNs hm
    exact ⟨o, es, ep, e, d⟩
  exact Z.called room (F _ Z.lowK (Z.lowNs Z.main) sm fun p hp => Z.lowTab hp) hb fun H hH hS => sat H a ns ⟨len, bits⟩ hH hS
end LG

end sec_LG
section sec_FD16
set_option maxRecDepth 100000
set_option maxHeartbeats 5000000
/-! FD16: the law. -/
namespace FD
open PySem L2
variable [Tabl]
open PyProof.Rows (envOfC)
def endT : Option (Fl × Env × W) → Bool
  | some (.ret (.sh (.bl b)), _, _) => b
  | _ => false
def denL (n : Nat) (beg : List Int → Option (List Int × List Int)) (fr : M Fl) (ns : List Int) : Bool := match beg ns with
  | some (wi, ci) => endT (fr ((startE n [.scr ns]).set 1 (some (.val .draw))) ⟨wi, ci, 0, 0, []⟩)
  | none => false
def spL (c : Ct) (den : List Int → Bool) : Sp := fun vs H Q _ => ∃ a ns, vs = [.ref a] ∧ SqL c.K H a (ns.map V.int) ∧ LamX.Tabs Tabl.T H ∧ den ns = true ∧ ∀ H', Q (.bl true) H'
section
variable {P : Program} {w : World} {K : PySem.W.Frag} {mg : Str → Option Value} {base : Heap}
theorem FSs.any {X : Cx} {sts : List Stmt} {f : M Fl} (h : FSs X sts f) : PSs X sts (fun E σ H => ∃ F, tS (ct X) F f E σ H) := ⟨fun pins s σ H E I ⟨F, q⟩ => (h F).run pins s σ H E I q⟩
theorem law_okL {st : Stmt} {f g : Addr} {fd fdg : FuncData} {N psg : List Str} {k kg : Nat} {fr : M Fl} {rest : List Stmt} {x y : Str} {beg : List Int → Option (List Int × List Int)} {p1 p2 p3 p4 p5 : Pos} (F : Fun K "law" "law" st f fd) (S : FnScope N [x] (defScope st))
    (FB : FnOk P w K mg base CX0 kg g fdg psg (spB ⟨K, mg⟩ beg)) (mb : mg y = some (.ref g)) (kpb : PySem.W.keepIn K (.ref g) = true) (bb : Binds K fdg psg []) (hkg : kg ≤ k)
    (hbd : defBody st = .Assign [.Name "_law_draw" p1] (.Call (.Name y p2) [.Name x p3] [] p4) p5 :: rest)
    (hN0 : N[0]? = some x) (hN1 : N[1]? = some ("_law_draw" : Str)) (v0 : Vis (defScope st) x) (l1 : Loc (defScope st) ("_law_draw" : Str)) (hgy : (defScope st).names.lookup y = some .globalImplicit)
    (hxd : (x == ("__debug__" : Str)) = false) (hxc : (x == ("__classdict__" : Str)) = false) (hyd : (y == ("__debug__" : Str)) = false)
    (hrest : ∀ (cdv : Value), (∃ (oc : Value) (od : Option Addr) (kV doc pm : Value) (an : Option Addr) (ct : Value) (osl : Array (Option Value)), K.lookup f = some ⟨oc, od, .func (PySem.W.fnOf "law" "law" (defArgs st) (defBody st) (defScope st) .none kV doc pm an cdv ct), osl⟩) → ∀ (A : Around) (outer : List PySem.Env) (s : Shared) (H : Hp) (E : XK), Room k (A.deeper (envOfC "law" (defScope st) s.heap.objs.size f cdv)) → A.guards = some [] → FSs (cxOf CX0 P w K mg base N "law" (defScope st) f cdv A outer s H E).nox rest fr) :
    LG.FnG P w K mg base (k + 1) f fd [x] (spL ⟨K, mg⟩ (denL N.length beg fr)) := by
  obtain ⟨oc, od, kV, doc, pm, an, cdv, ctt, osl, rfl, lk, hcdd⟩ := F.ex
  have len : ∀ vs H Q E, spL ⟨K, mg⟩ (denL N.length beg fr) vs H Q E → vs.length = [x].length := fun vs H Q E h => by
    obtain ⟨a, ns, rfl, _⟩ := h
    rfl
  refine ⟨len, fun A room hG => LG.runs_of lk hcdd S len room fun outer s H vs Q E h => ?_⟩
  · have hr := room.deeper (envOfC "law" (defScope st) s.heap.objs.size f cdv)
    obtain ⟨a, ns, rfl, hS, hT, hb, q⟩ := h
    rw [hbd]
    refine ⟨_, PSs.nox (pss_cons (ps_set (i := 1) (X := (cxOf CX0 P w K mg base N "law" (defScope st) f cdv A outer s H E).nox) S.nd hN1 l1 (pe_call FB (hr.mono hkg) hgy mb kpb bb .nil pass0 (pa_cons (pe_var (i := 0) hN0 v0 hxd hxc) pa_nil) hyd) rfl (.inl rfl)) (hrest cdv ⟨oc, od, kV, doc, pm, an, ctt, osl, lk⟩ A outer s H E hr hG).any), ?_⟩
    unfold denL at hb
    split at hb
    · rename_i wi ci eb
      refine ⟨.ref a, rfl, ?_⟩
      refine ⟨a, ns, wi, ci, rfl, hS, hT, eb, fun t H' f1 f2 f3 kp hT' g1 g2 g3 ne => ?_⟩
      have dw : DrawAt ⟨some t, ci, [], fun _ => none⟩ ⟨wi, ci, 0, 0, []⟩ H' := ⟨fun t' e => by
        cases e
        exact ⟨g1, g2, g3, ne, rfl⟩, hT'⟩
      have nT : ∀ {b : Addr} {u : HO}, Rd H b u → (∀ ps, u ≠ .tbl ps) → b ∉ Tabl.T.map (·.1) := fun {b u} hr hn z => by
        obtain ⟨p, hp, rfl⟩ := List.mem_map.mp z
        obtain ⟨ps, e, _⟩ := hT p hp
        rcases hr with h | ⟨o, h⟩
        · rw [e] at h
          cases h
          exact hn _ rfl
        · rw [e] at h
          cases h
      have nA : ∀ {b : Addr} {u : HO}, Rd H b u → (∀ ps, u ≠ .tbl ps) → b ∉ (⟨some t, ci, [], fun _ => none⟩ : Dr).as := fun {b u} hr hn z => by
        have nb : H b ≠ none := by
          rcases hr with h | ⟨o, h⟩ <;> (rw [h]; simp)
        rcases List.mem_append.mp z with z | z
        · have z : b = t.1 ∨ b = t.2.1 ∨ b = t.2.2 := by simpa [Dr.ds] using z
          rcases z with z | z | z
          · rw [z] at nb
            exact nb f1
          · rw [z] at nb
            exact nb f2
          · rw [z] at nb
            exact nb f3
        · exact nT hr hn (by simpa using z)
      have hS' : SqL K (vis (⟨some t, ci, [], fun _ => none⟩ : Dr).as H') a (ns.map V.int) := by
        rcases hS with h | h
        · have n1 := nA h (fun _ z => nomatch z)
          have n2 := nT h (fun _ z => nomatch z)
          rcases h with h | ⟨o, h⟩
          · exact .inl (.inl (by rw [vis_out n1]; exact kp _ _ h (by rw [offD_as]; exact n2)))
          · exact .inl (.inr ⟨o, by rw [vis_out n1]; exact kp _ _ h (by rw [offD_as]; exact n2)⟩)
        · exact .inr h
      have S0 : SR ⟨K, mg⟩ ⟨⟨some t, ci, [], fun _ => none⟩, (⟨some t, ci, [], fun _ => none⟩ : Dr).as, H'⟩ (⟨some t, ci, [], fun _ => none⟩ : Dr).as (startE N.length [.scr ns]) ⟨wi, ci, 0, 0, []⟩ (L2.start N [V.ref a]) H' := start_sr (fun _ h => h) (fun b hb => (⟨dw, Sto.nil rfl⟩ : DS ⟨K, mg⟩ ⟨some t, ci, [], fun _ => none⟩ ⟨wi, ci, 0, 0, []⟩ (⟨some t, ci, [], fun _ => none⟩ : Dr).as H').mem hb) ⟨dw, Sto.nil rfl⟩ (.cons (.scr hS') .nil)
      have S1 := S0.setVal 1 (v := .ref t.1) (d := .draw) (.draw rfl)
      cases er : fr ((startE N.length [.scr ns]).set 1 (some (.val .draw))) ⟨wi, ci, 0, 0, []⟩ with
      | none =>
        rw [er] at hb
        cases hb
      | some z =>
        obtain ⟨fl, ρ', w'⟩ := z
        rw [er] at hb
        refine ⟨⟨⟨some t, ci, [], fun _ => none⟩, (⟨some t, ci, [], fun _ => none⟩ : Dr).as, H'⟩, _, _, _, fl, ρ', w', S1, er, ?_⟩
        cases fl with
        | ret r =>
          cases r with
          | sh d =>
            cases d with
            | bl b =>
              have hb : b = true := hb
              subst hb
              intro v σ O H2 S2 R
              cases R
              exact q H2
            | _ => cases hb
          | _ => cases hb
        | _ => cases hb
    · cases hb
theorem law_ok {st : Stmt} {f g : Addr} {fd fdg : FuncData} {N psg : List Str} {k kg : Nat} {fr : M Fl} {rest : List Stmt} {x y : Str} {beg : List Int → Option (List Int × List Int)} {p1 p2 p3 p4 p5 : Pos} (F : Fun K "law" "law" st f fd) (S : FnScope N [x] (defScope st))
    (FB : FnOk P w K mg base CX0 kg g fdg psg (spB ⟨K, mg⟩ beg)) (mb : mg y = some (.ref g)) (kpb : PySem.W.keepIn K (.ref g) = true) (bb : Binds K fdg psg []) (hkg : kg ≤ k)
    (hbd : defBody st = .Assign [.Name "_law_draw" p1] (.Call (.Name y p2) [.Name x p3] [] p4) p5 :: rest)
    (hN0 : N[0]? = some x) (hN1 : N[1]? = some ("_law_draw" : Str)) (v0 : Vis (defScope st) x) (l1 : Loc (defScope st) ("_law_draw" : Str)) (hgy : (defScope st).names.lookup y = some .globalImplicit)
    (hxd : (x == ("__debug__" : Str)) = false) (hxc : (x == ("__classdict__" : Str)) = false) (hyd : (y == ("__debug__" : Str)) = false)
    (hrest : ∀ (cdv : Value) (A : Around) (outer : List PySem.Env) (s : Shared) (H : Hp) (E : XK), Room k (A.deeper (envOfC "law" (defScope st) s.heap.objs.size f cdv)) → A.guards = some [] → FSs (cxOf CX0 P w K mg base N "law" (defScope st) f cdv A outer s H E).nox rest fr) :
    LG.FnG P w K mg base (k + 1) f fd [x] (spL ⟨K, mg⟩ (denL N.length beg fr)) := law_okL F S FB mb kpb bb hkg hbd hN0 hN1 v0 l1 hgy hxd hxc hyd fun cdv _ => hrest cdv
end
end FD

end sec_FD16
section sec_FD17
set_option maxRecDepth 100000
set_option maxHeartbeats 5000000
/-! FD17: short forms for printed derivations. -/
namespace FD
open PySem L2
open PyProof.Rows (envOfC)
theorem bo_len : bootBuiltins "len" = some (.builtin "len") := by decide +kernel
theorem bo_min : bootBuiltins "min" = some (.builtin "min") := by decide +kernel
theorem bo_all : bootBuiltins "all" = some (.builtin "all") := by decide +kernel
theorem bo_abs : bootBuiltins "abs" = some (.builtin "abs") := by decide +kernel
theorem bo_repr : bootBuiltins "repr" = some (.builtin "repr") := by decide +kernel
theorem bo_int : bootBuiltins "int" = some (.type "int") := by decide +kernel
theorem bo_list : bootBuiltins "list" = some (.type "list") := by decide +kernel
theorem bo_tuple : bootBuiltins "tuple" = some (.type "tuple") := by decide +kernel
abbrev subD : D → D → Option RV := intD (i0 fun i j => .int (i - j))
abbrev ltD : D → D → Option RV := ordD (fun i j => decide (i < j)) ltS
abbrev gtD : D → D → Option RV := intD (i0 fun i j => .bl (decide (j < i)))
abbrev geD : D → D → Option RV := intD (i0 fun i j => .bl (decide (j ≤ i)))
abbrev retM (f : M RV) : M Fl := bindM f fun r => pureM (.ret r)
abbrev exprM (f : M RV) : M Fl := bindM f fun _ => pureM .nx
abbrev setM' (i : Nat) (f : M RV) : M Fl := bindM f fun r => nxM (asgM i r)
abbrev parSt (is : List Nat) (f : M (List RV)) : M Fl := bindM f fun rs => nxM (parM is rs)
abbrev asgSt (f : M RV) (g : D → M Unit) : M Fl := bindM f fun r => bindM (escR r) fun d => nxM (g d)
abbrev propM (cn : Str) (den : List D → W → Option (RV × W)) (fo : M RV) : M RV := bindM fo fun r => bindM (escR r) fun d => match d with
  | .ins c' gs => if c' = cn then runD den [d] else failM
  | _ => failM
abbrev meth0M (cn m : Str) (den : List D → W → Option (RV × W)) (dd : List D) (fo : M RV) : M RV := bindM fo fun r => bindM (selfR cn m r) fun d => runD den (d :: dd)
abbrev jExpr (f : M RV) (g : MJ) : MJ := fun gs => bindM f fun _ => g gs
abbrev jFld (f : Str) (fe : M RV) (g : MJ) : MJ := fun gs => bindM fe fun r => bindM (escR r) fun d => if gs.length < 900 then g (putD f d gs) else failM
variable [Tabl]
/-- a module's constant -/
structure GlbD (K : PySem.W.Frag) (mg : Str → Option Value) (x : Str) (d : D) : Prop where
  ex : ∃ u v, mg x = some u ∧ RelV v u ∧ ∀ da G, Rep ⟨K, mg⟩ da G v d
structure IsiC (K : PySem.W.Frag) (mg : Str → Option Value) (cn : Str) (bt : String → Bool) (ic : List (Str × Bool)) : Prop where
  ex : ∃ C, mg cn = some (.ref C) ∧ KndD K mg (fun t b => PySem.W.kitOne K t (.ref C) = some b) bt ic
section
variable {X : Cx} {x cn : Str} {d : D} {pos p p2 : Pos} {a : Expr} {fa : M RV} {bt : String → Bool} {ic : List (Str × Bool)}
theorem fe_gl (h : GlbD X.K X.mg x d) (hg : Gl X x) (hd : (x == ("__debug__" : Str)) = false := by decide) : FE X (.Name x pos) (pureM (.sh d)) := by
  obtain ⟨u, v, h1, h2, h3⟩ := h.ex
  exact fe_glob hg h1 h2 h3 hd
theorem fe_isiC (h : IsiC X.K X.mg cn bt ic) (hgc : Gl X cn) (hm : X.mg "isinstance" = none) (hg : Gl X "isinstance") (ha : FE X a fa) (hd : (cn == ("__debug__" : Str)) = false := by decide)
    (hs : starEach [a, .Name cn p2] X.env = (false, eval a X.env) :: starEach [.Name cn p2] X.env := by rfl) (hs2 : starEach [.Name cn p2] X.env = (false, eval (.Name cn p2) X.env) :: starEach [] X.env := by rfl) (hpl : (backTo pos (starEach [.Name cn p2] X.env)).any (·.1) = false := by rfl) :
    FE X (.Call (.Name "isinstance" p) [a, .Name cn p2] [] pos) (isiM bt ic fa) := by
  obtain ⟨C, h1, h2⟩ := h.ex
  exact fe_isi hg hm (pe_glob (v := .ref C) hgc h1 rfl hd) (.own C) h2 ha hs hs2 hpl
end
theorem kk1 : (("wide" : Str) = "rest") = False := eq_false (by decide +kernel)
theorem kk2 : (("wide" : Str) = "turn") = False := eq_false (by decide +kernel)
theorem kk3 : (("cells" : Str) = "rest") = False := eq_false (by decide +kernel)
theorem kk4 : (("cells" : Str) = "turn") = False := eq_false (by decide +kernel)
theorem kk5 : (("rest" : Str) = "turn") = False := eq_false (by decide +kernel)
theorem kk6 : (("turn" : Str) = "rest") = False := eq_false (by decide +kernel)
theorem v_rest : ∀ a b w, valV (drK a b w) (.inr "rest") = some (.int (W.rest w)) := fun a b w => by simp [valV, drK, kk1, kk3]
theorem v_turn : ∀ a b w, valV (drK a b w) (.inr "turn") = some (.int (W.turn w)) := fun a b w => by simp [valV, drK, kk2, kk4, kk5]
theorem p_rest : ∀ a b w i, putK (drK a b w) (.inr "rest") (V.int i) = drK a b { w with rest := i } ∧ ({ w with rest := i } : W).wide = w.wide ∧ ({ w with rest := i } : W).cells = w.cells ∧ ({ w with rest := i } : W).st = w.st := fun a b w i => ⟨by simp [putK, drK, kk1, kk3, kk6], rfl, rfl, rfl⟩
theorem p_turn : ∀ a b w i, putK (drK a b w) (.inr "turn") (V.int i) = drK a b { w with turn := i } ∧ ({ w with turn := i } : W).wide = w.wide ∧ ({ w with turn := i } : W).cells = w.cells ∧ ({ w with turn := i } : W).st = w.st := fun a b w i => ⟨by simp [putK, drK, kk2, kk4, kk5], rfl, rfl, rfl⟩
section
variable {P : Program} {w : World} {K : PySem.W.Frag} {mg : Str → Option Value} {base : Heap}
/-- a def whose code object is known -/
theorem def_okT {x qual : Str} {st : Stmt} {f ca : Addr} {fd : FuncData} {N ps : List Str} {k : Nat} {fb : M Fl} (F : Fun K x qual st f fd) (S : FnScope N ps (defScope st))
    (hcd : ∀ oc od kV doc pm an cdv ct osl, K.lookup f = some ⟨oc, od, .func (PySem.W.fnOf x qual (defArgs st) (defBody st) (defScope st) .none kV doc pm an cdv ct), osl⟩ → cdv = .ref ca)
    (hb : ∀ (A : Around) (outer : List PySem.Env) (s : Shared) (H : Hp) (E : XK), Room k (A.deeper (envOfC qual (defScope st) s.heap.objs.size f (.ref ca))) → FSs (cxOf CX0 P w K mg base N qual (defScope st) f (.ref ca) A outer s H E).nox (defBody st) fb) :
    FnOk P w K mg base CX0 (k + 1) f fd ps (spD ⟨K, mg⟩ ps.length (denB N.length fb)) := by
  have F0 := F
  obtain ⟨oc, od, kV, doc, pm, an, cdv, ctt, osl, e, lk, _⟩ := F.ex
  rw [e] at lk
  have ec := hcd _ _ _ _ _ _ _ _ _ lk
  refine def_okE (cd := .ref ca) F0 S (fun oc od kV doc pm an cdv ct osl h => ?_) hb
  exact hcd _ _ _ _ _ _ _ _ _ h
end
end FD

end sec_FD17
section sec_FD18
set_option maxRecDepth 100000
set_option maxHeartbeats 5000000
/-! FD18: zip; is None; chains; sums and greatest numbers; a sign's place in a text; list times number. -/
namespace FD
open PySem L2
variable [Tabl]
/-! ### zip -/
section
variable {c : Ct} {dr : Dr} {G : Hp}
end
section
variable {X : Cx} {a b e e2 e3 : Expr} {es elts : List Expr} {pos p tpos apos : Pos} {kk : Nat} {fa fb fc fo fe : M RV} {fs : M (List RV)}
/-! ### is None -/
def isNonD (no : Bool) : D → Option RV
  | .non => some (.sh (.bl (!no)))
  | .ty _ => none
  | .tok _ => none
  | _ => some (.sh (.bl no))
theorem RepP.isNon {c : Ct} {da : DA} {O : List Addr} {H : Hp} {v : V} {d : D} {no : Bool} {r : RV} (h : RepP c da O H v d) (e : isNonD no d = some r) : r = .sh (.bl (if no then !decide (v = .non) else decide (v = .non))) := by
  cases d with
  | non => cases e; rw [h.non]; cases no <;> rfl
  | bl b => cases e; rw [h.bl]; cases no <;> rfl
  | int i => cases e; rw [h.int]; cases no <;> rfl
  | str x => cases e; rw [h.str]; cases no <;> rfl
  | ty n => cases e
  | tok n => cases e
  | obj n =>
    cases e
    rcases h with h | ⟨a, o, rfl, _, _⟩
    · cases h; cases no <;> rfl
    · cases no <;> rfl
  | draw =>
    cases e
    rcases h with h | ⟨a, o, rfl, _, _⟩
    · cases h; cases no <;> rfl
    · cases no <;> rfl
  | tup ds => cases e; obtain ⟨a, xs, rfl, _⟩ := h.tup; cases no <;> rfl
  | ktup ds => cases e; obtain ⟨a, xs, rfl, _⟩ := h.ktup; cases no <;> rfl
  | lst ds => cases e; obtain ⟨a, xs, rfl, _⟩ := h.lst; cases no <;> rfl
  | scr ns => cases e; obtain ⟨a, rfl, _⟩ := h.scr; cases no <;> rfl
  | dic ps => cases e; obtain ⟨a, kvs, rfl, _⟩ := h.dic; cases no <;> rfl
  | dit ps => cases e; obtain ⟨a, kvs, rfl, _⟩ := h.dit; cases no <;> rfl
  | fdit ps => cases e; obtain ⟨a, ob, kvs, rfl, _⟩ := h.fdit; cases no <;> rfl
  | ins cn gs => cases e; obtain ⟨a, C, dx, fs, rfl, _⟩ := h.ins; cases no <;> rfl
  | exc cn gs =>
    cases e
    rcases h with h | ⟨a, o, rfl, _, _⟩
    · cases h <;> cases no <;> rfl
    · cases no <;> rfl
  | lam i ds =>
    cases e
    rcases h with h | ⟨a, o, rfl, _, _⟩
    · cases h; cases no <;> rfl
    · cases no <;> rfl
theorem isN_read {c : Ct} {F : Fm} {no : Bool} {σ : L2.St} {H : Hp} {Q : VK} (h : tE c F (op1M (isNonD no) fa) σ H Q) : tE c F fa σ H fun x H1 => Q (.bl (if no then !decide (x = .non) else decide (x = .non))) H1 := by
  obtain ⟨O, ρ, w, r, ρ', w', S, e, k⟩ := h
  refine tE_then S e fun x O1 ρ1 w1 H1 r1 S1 e1 R1 h1 => ?_
  obtain ⟨d1, r', p1, eg, ez⟩ := lift1_some h1
  cases ez
  have z := (R1.hold.peek S1 p1).isNon eg
  subst z
  exact k _ O1 H1 S1 e1 (Rep.bl _)
theorem fc_isN {j : Nat} {pos' : Pos} (ha : FE X a fa) : FC X .Is a (.Constant .none j pos') pos (op1M (isNonD false) fa) :=
  ⟨fun F => PE.wk (pe_cmp (pc_isN (ha F)) (nobehind _ (by decide) (by decide))) fun σ H Q h => isN_read (no := false) h,
   fun F => PT.wk (pt_cmp (pc_isN (ha F)) (nobehind _ (by decide) (by decide))) fun σ H Q q => isN_read (no := false) (bool_read q)⟩
theorem fc_notN {j : Nat} {pos' : Pos} (ha : FE X a fa) : FC X .IsNot a (.Constant .none j pos') pos (op1M (isNonD true) fa) :=
  ⟨fun F => PE.wk (pe_cmp (pc_notN (ha F)) (nobehind _ (by decide) (by decide))) fun σ H Q h => isN_read (no := true) h,
   fun F => PT.wk (pt_cmp (pc_notN (ha F)) (nobehind _ (by decide) (by decide))) fun σ H Q q => isN_read (no := true) (bool_read q)⟩
end
end FD

end sec_FD18
section sec_FD19
set_option maxRecDepth 100000
set_option maxHeartbeats 5000000
/-! FD19: dicts whose keys are tuples of numbers and texts. -/
namespace FD
open PySem L2
variable [Tabl]
def asKey : D → Option Key
  | .int i => some (.inl i)
  | .str x => some (.inr x)
  | _ => none
def asKeys : List D → Option (List Key)
  | [] => some []
  | d :: r => match asKey d with
    | some k => (match asKeys r with | some ks => some (k :: ks) | none => none)
    | none => none
def keyT : D → Option (List Key)
  | .tup ds => asKeys ds
  | _ => none
theorem asKey_kD (k : Key) : asKey (kD k) = some k := by cases k <;> rfl
theorem asKeys_kD : ∀ ks : List Key, asKeys (ks.map kD) = some ks
  | [] => rfl
  | k :: ks => by
    rw [List.map_cons]
    unfold asKeys
    rw [asKey_kD, asKeys_kD ks]
theorem keyT_kD (ks : List Key) : keyT (.tup (ks.map kD)) = some ks := asKeys_kD ks
theorem asKey_inv {d : D} {k : Key} (h : asKey d = some k) : d = kD k := by
  cases d <;> first | (cases h; rfl) | cases h
theorem asKeys_inv : ∀ {ds : List D} {ks : List Key}, asKeys ds = some ks → ds = ks.map kD
  | [], _, h => by cases h; rfl
  | d :: r, _, h => by
    unfold asKeys at h
    split at h
    · rename_i k e
      split at h
      · rename_i ks e2
        cases h
        rw [asKey_inv e, asKeys_inv e2]
        rfl
      · cases h
    · cases h
theorem keyT_inv {d : D} {ks : List Key} (h : keyT d = some ks) : d = .tup (ks.map kD) := by
  cases d <;> first | (rw [asKeys_inv (show asKeys _ = some ks from h)]) | cases h
def valT (ps : List (D × D)) (k : List Key) : Option D := (ps.find? fun p => decide (keyT p.1 = some k)).map (·.2)
def putT (ps : List (D × D)) (k : List Key) (d : D) : List (D × D) := if (ps.any fun p => decide (keyT p.1 = some k)) = true then ps.map (fun p => if keyT p.1 = some k then (p.1, d) else p) else ps ++ [(.tup (k.map kD), d)]
section
variable {c : Ct} {da : DA} {G : Hp}
theorem RepAll.keys : ∀ {vs : List V} {ks : List Key}, RepAll c da G vs (ks.map kD) → vs = ks.map kV
  | _, [], h => by cases h; rfl
  | _, k :: ks, h => by
    cases h with
    | cons a b =>
      rw [RepAll.keys b]
      cases k <;> cases a <;> rfl
theorem RepKT.val : ∀ {kvs : List (List Key × V)} {ps : List (D × D)}, RepKT c da G kvs ps → ∀ (k : List Key), (valV kvs k = none ∧ valT ps k = none) ∨ ∃ v d, valV kvs k = some v ∧ valT ps k = some d ∧ Rep c da G v d
  | _, _, .nil, k => .inl ⟨rfl, rfl⟩
  | _, _, .cons (k := k0) (v := v) (d := d) h r, k => by
    by_cases e : k0 = k
    · refine .inr ⟨v, d, valV_pos e, ?_, h⟩
      subst e
      simp [valT, List.find?_cons, keyT_kD]
    · rcases RepKT.val r k with ⟨h1, h2⟩ | ⟨v', d', h1, h2, h3⟩
      · refine .inl ⟨by rw [valV_neg e]; exact h1, ?_⟩
        simp only [valT, List.find?_cons, keyT_kD, Option.some.injEq, e, decide_false]
        exact h2
      · refine .inr ⟨v', d', by rw [valV_neg e]; exact h1, ?_, h3⟩
        simp only [valT, List.find?_cons, keyT_kD, Option.some.injEq, e, decide_false]
        exact h2
theorem RepKT.any : ∀ {kvs : List (List Key × V)} {ps : List (D × D)}, RepKT c da G kvs ps → ∀ (k : List Key), (kvs.any fun kv => decide (kv.1 = k)) = ps.any fun p => decide (keyT p.1 = some k)
  | _, _, .nil, k => rfl
  | _, _, .cons (k := k0) h r, k => by
    simp only [List.any_cons, keyT_kD, Option.some.injEq]
    rw [RepKT.any r k]
theorem RepKT.repl {v : V} {d : D} (h : Rep c da G v d) : ∀ {kvs : List (List Key × V)} {ps : List (D × D)}, RepKT c da G kvs ps → ∀ (k : List Key), RepKT c da G (kvs.map fun kv => if kv.1 = k then (kv.1, v) else kv) (ps.map fun p => if keyT p.1 = some k then (p.1, d) else p)
  | _, _, .nil, k => .nil
  | _, _, .cons (k := k0) q r, k => by
    simp only [List.map_cons, keyT_kD, Option.some.injEq]
    by_cases e : k0 = k
    · rw [if_pos e, if_pos e]
      exact .cons h (RepKT.repl h r k)
    · rw [if_neg e, if_neg e]
      exact .cons q (RepKT.repl h r k)
theorem RepKT.app {kvs ws : List (List Key × V)} {ps qs : List (D × D)} (h : RepKT c da G kvs ps) (h2 : RepKT c da G ws qs) : RepKT c da G (kvs ++ ws) (ps ++ qs) := by
  induction kvs generalizing ps with
  | nil => cases h; exact h2
  | cons kv kvs ih =>
    cases h with
    | cons a b => exact .cons a (ih b)
theorem RepKT.put {v : V} {d : D} {kvs : List (List Key × V)} {ps : List (D × D)} (r : RepKT c da G kvs ps) (k : List Key) (h : Rep c da G v d) : RepKT c da G (putK kvs k v) (putT ps k d) := by
  unfold putK putT
  rw [r.any k]
  split
  · exact r.repl h k
  · exact r.app (.cons h .nil)
theorem RepKT.length : ∀ {kvs : List (List Key × V)} {ps : List (D × D)}, RepKT c da G kvs ps → kvs.length = ps.length
  | _, _, .nil => rfl
  | _, _, .cons _ r => by simp [RepKT.length r]
end
/-- a dict that may be read -/
def pairsD : D → Option (List (D × D))
  | .dit ps => some ps
  | .fdit ps => some ps
  | _ => none
theorem RepP.key {c : Ct} {da : DA} {O : List Addr} {H : Hp} {v : V} {d : D} {ks : List Key} (h : RepP c da O H v d) (e : keyT d = some ks) : ∃ b, v = .ref b ∧ H b = some (.tup (ks.map kV)) := by
  have z := keyT_inv e
  subst z
  obtain ⟨a, xs, rfl, q, r⟩ := h.tupH
  rw [r.keys] at q
  exact ⟨a, rfl, vis_ex _ _ q⟩
section
variable {X : Cx} {a b e e2 o : Expr} {es : List Expr} {pos p p2 pos' apos cpos : Pos} {x : Str} {i k : Nat} {fa fb fo fk fv fe : M RV}
/-! ### d[k] -/
/-! ### d.get(k, e) -/
def dgetM (fo fk fe : M RV) : M RV := bindM fo fun r1 => bindM fk fun r2 => bindM fe fun r3 => bindM (escR r3) fun z => lift2 (fun d k => match pairsD d with
  | some ps => (match keyT k with | some ks => some (.sh ((valT ps ks).getD z)) | none => none)
  | none => none) r1 r2
/-- the dict that is asked stands there from the start -/
def dictM (fo : M RV) : M RV := bindM fo fun r => fun ρ w => match peek ρ w r with
  | some d => (match pairsD d with | some _ => some (r, ρ, w) | none => none)
  | none => none
/-! ### k in d -/
/-! ### x[k] = v, x a slot's own dict -/
end
end FD

end sec_FD19
section sec_FD20
set_option maxRecDepth 100000
set_option maxHeartbeats 5000000
/-! FD20: a dict that is given away is locked; its keys are walked. -/
namespace FD
open PySem L2
variable [Tabl]
section
variable {c : Ct} {F : Fm} {G : Hp} {O : List Addr} {ρ : Env} {w : W} {σ : L2.St} {H : Hp} {a : Addr} {i : Nat}
theorem SR.drop (S : SR c F O ρ w σ H) (i : Nat) : SR c F O (ρ.set i none) w σ H where
  len := by rw [List.length_set]; exact S.len
  base := S.base
  new := S.new
  sub := S.sub
  drs := S.drs
  trk := S.trk
  draw := S.draw
  val := fun j d h => by
    rcases getElem?_set_some h with ⟨_, z⟩ | ⟨_, h⟩
    · cases z
    · exact S.val j d h
  own := fun j d h => by
    rcases getElem?_set_some h with ⟨_, z⟩ | ⟨_, h⟩
    · cases z
    · exact S.own j d h
  uni := fun j j' d d' b h h' => by
    rcases getElem?_set_some h with ⟨_, z⟩ | ⟨_, h⟩
    · cases z
    · rcases getElem?_set_some h' with ⟨_, z⟩ | ⟨_, h'⟩
      · cases z
      · exact S.uni j j' d d' b h h'
end
section
variable {X : Cx} {a b e e2 o : Expr} {es : List Expr} {pos p p2 pos' apos cpos : Pos} {x : Str} {i k : Nat} {fa fb fo fk fv fe : M RV} {tg : Expr}
/-! ### k in d, k not in d -/
/-! ### for k in d, d locked -/
end
end FD

end sec_FD20
section sec_DC
set_option maxRecDepth 100000
set_option maxHeartbeats 5000000
/-! DC: {k: v for ..} whose keys are tuples of numbers and texts. -/
namespace DC
open PySem PySem.Spec PyProof.Rows L2
section
variable {X : Cx}
/-- one more pair in the dict at D -/
theorem put {pins : List (Addr × Obj)} {σ : L2.St} {H : Hp} {s : Shared} {E : Value → Shared → Prop} {D q : Addr} {kvs : List (List Key × V)} {ks : List Key} {z : V} {r : Value} {Q : Unit → Shared → Prop} (I : Inv X pins σ H s) (room : X.A.units + 1 < cLine) (isD : H D = some (.dT kvs)) (few : kvs.length < sizeLine)
    (isK : H q = some (.tup (ks.map kV))) (rz : RelV z r) (go : ∀ s2, Inv X pins σ (upd H D (.dT (putK kvs ks z))) s2 → Q () s2) : wpAny (model X.prog X.w) X.A (dictSet D (.ref q) r) Q E s := by
  obtain ⟨_, nsys, xs, rel, dat⟩ := dt_of I.hok isD
  have n : kvs.length = xs.length := Paired.length rel
  have more := length_putK kvs ks z
  refine wpAny_dictSet_heap (hsz := by omega) (show X.A.units < cLine from Nat.lt_of_succ_lt room) (key_of I.hok isK) dat ?_
  intro h new same
  obtain ⟨o, es, ep, at_, p1, p2, p3, _, p4⟩ := new
  apply go
  refine d_write I (by rw [isD]; trivial) same ⟨o, at_⟩ ⟨by omega, nsys, _, (rel.put ks isK rz).keeps ?_, o, es, ep, at_, p1, p2, p3, p4⟩
  intro c ys e
  exact (upd_ne (ne_of e isD (by intro y; cases y))).trans e
/-- what a turn asks: the target, the tests, then key and value -/
def oneTurn (g : TG) (tt : TT) (tk tv : TE) (vs : List Nat) (σ : L2.St) (D : Addr) (Nx : Hp → Prop) (x : V) (H : Hp) : Prop := g x (wipe σ vs) H fun τ H2 => wipe τ vs = wipe σ vs ∧ tt τ H2 fun b H3 =>
  if b = true then tk τ H3 fun y H4 => tv τ H4 fun z H5 => ∃ kvs ks q, y = .ref q ∧ H5 q = some (.tup (ks.map kV)) ∧ H5 D = some (.dT kvs) ∧ kvs.length < sizeLine ∧ Nx (upd H5 D (.dT (putK kvs ks z))) else Nx H3
section
variable {kx vx tg iter : Expr} {ifs : List Expr} {scope : Scope} {own : List (Str × Nat)} {pos : Pos} {wi : TI} {g : TG} {tt : TT} {tk tv : TE}
/-- the loop, in the block's context Y -/
theorem loop {Y : Cx} {fp : List Addr} {it D : Addr} {J : It} {tn : Nat → Heap → Prop} {W : Nat → Nat → Hp → Prop} {σ : L2.St} {R : Result → Shared → Prop} {Qd : Hp → Prop} (no : Y.xe = fun _ _ => False) (calm : Y.calm = true) (room : Y.A.units + 1 < cLine)
    (ours : ∀ {τ : L2.St} {H : Hp} {s : Shared}, Inv Y [] τ H s → (∀ b ∈ fp, H b = none) → ∀ b ∈ fp, FpOk Y [] H b) (T : Turn Y.prog Y.w Y.K tg J fp it tn) (hg : PG Y tg g) (ht : PTs Y ifs tt) (hk : PE Y kx tk) (hv : PE Y vx tv)
    (turn : ∀ i m H, W i m H → (J.stop i H ∧ Qd H) ∨ (J.go i H ∧ ∀ x H2, J.yld i H x H2 → oneTurn g tt tk tv (own.map (·.2)) σ D (fun H3 => ∃ m2, m2 < m ∧ W (i + 1) m2 H3) x H2))
    (fin : ∀ {s : Shared} {H : Hp}, Inv Y [] (wipe σ (own.map (·.2))) H s → Qd H → R (.ok .next) s)
    {m : Nat} {H : Hp} {s : Shared} (I : Inv Y [] (wipe σ (own.map (·.2))) H s) (st : tn 0 s.heap) (nf : ∀ b ∈ fp, H b = none) (w0 : W 0 m H) :
    codeAny (model Y.prog Y.w) Y.A (.compLoop (.DictComp kx vx [⟨tg, iter, ifs, 0⟩] scope pos) 0 (.ref it) (.ref D) Y.env) R s := by
  let At : Nat → Shared → Prop := fun n s => ∃ i H, Inv Y [] (wipe σ (own.map (·.2))) H s ∧ tn i s.heap ∧ (∀ b ∈ fp, H b = none) ∧ W i n H
  apply compLoop_anyD At ?step m ⟨0, H, I, st, nf, w0⟩
  rintro n s1 ⟨i, H1, I1, st1, nf1, w1⟩
  cases turn i n H1 w1 with
  | inl z =>
    apply thnF (T.done Y rfl rfl rfl calm i [] s1 _ H1 _ I1 (ours I1 nf1) st1 z.1)
    rintro _ s2 ⟨rfl, I2⟩
    exact fin I2 z.2
  | inr z =>
    apply thnF (T.item Y rfl rfl rfl calm i [] s1 _ H1 _ I1 (ours I1 nf1) st1 z.1)
    rintro _ s2 ⟨u, rfl, more⟩
    apply thnF more
    rintro _ s3 ⟨x, H3, I3, rx, yld, st3, nf3⟩
    -- the iterator's objects are pinned while the turn runs
    have I4 := I3.pinned (ours I3 nf3) (T.obj _ _ st3)
    have back : ∀ {τ : L2.St} {s' : Shared} {H' : Hp}, Inv Y ([] ++ pinsAt fp s3.heap) τ H' s' → wipe τ (own.map (·.2)) = wipe σ (own.map (·.2)) → (∃ m2, m2 < n ∧ W (i + 1) m2 H') → ∃ m2, m2 < n ∧ At m2 s' := by
      rintro τ s' H' I' same ⟨m2, less, w2⟩
      have still : ∀ b ∈ fp, ∀ o, s3.heap.get? b = some o → s'.heap.get? b = some o ∧ H' b = none := fun b hb o e => by
        have p := I'.pin (b, o) (List.mem_append_right _ (List.mem_append_right _ (mem_pinsAt hb e)))
        exact ⟨p.1, p.2.1⟩
      refine ⟨m2, less, i + 1, H', (I'.unpinned (pins := [])).weak (by rw [← same, wipe_length]) ?_, T.keep _ _ _ st3 fun b hb o e => (still b hb o e).1, ?_, w2⟩
      · intro j v e
        rw [← same] at e
        exact (wipe_some e).1
      · intro b hb
        obtain ⟨o, e, _⟩ := T.obj _ _ st3 b hb
        exact (still b hb o e).2
    have run := hg.run _ s3 _ H3 x u _ I4 rx (z.2 x H3 yld)
    rw [no] at run
    apply thnF run
    rintro _ s4 ⟨τ, H4, I5, same, q4⟩
    have run := ht.run _ s4 τ H4 _ I5 q4
    rw [no] at run
    apply thnF run
    rintro b s5 ⟨H5, I6, q5⟩
    cases b with
    | false => exact back I6 same q5
    | true =>
      have run := hk.run _ s5 τ H5 _ I6 q5
      rw [no] at run
      apply thnF run
      rintro key s6 ⟨y, H6, I7, ry, q6⟩
      have run := hv.run _ s6 τ H6 _ I7 q6
      rw [no] at run
      apply thnF run
      rintro r s7 ⟨v, H7, I8, rv, kvs, ks, q, rfl, isK, isD, few, nx⟩
      obtain rfl : key = .ref q := ry
      exact put I8 room isD few isK rv fun s8 I9 => back I9 same nx
end
end
end DC

end sec_DC
section sec_DV
set_option maxRecDepth 100000
set_option maxHeartbeats 5000000
/-! DV: list(d.values()) of a dict with tuple keys. -/
namespace DV
open PySem PySem.Spec PyProof.Rows L2
open PySem.W (KdlSrc)
/-- what is drawn from the entries, one by one, are the values -/
theorem told {P : Program} {w : World} {es : Array DictEntry} {xs : List (List Key × Addr × Value)} {out : List Value} (hent : es.toList = xs.map (entryOfKey (tupleKind (mixKind P w)))) (n : out.length = xs.length) (each : ∀ j v, out[j]? = some v → ∃ h : j < es.size, v = es[j].val) : out = xs.map fun x => x.2.2 := by
  apply List.ext_getElem (by simpa using n)
  intro j h1 h2
  obtain ⟨lt, e⟩ := each j _ (List.getElem?_eq_getElem h1)
  have at_ := entry_at hent j
  have lx : j < xs.length := by simpa using h2
  rw [Array.getElem?_eq_getElem lt, List.getElem?_eq_getElem lx] at at_
  rw [e, Option.some.inj at_, List.getElem_map]
  rfl
section
variable {X : Cx} {e : Expr} {te : TE} {p pos apos cpos : Pos}
end
end DV

end sec_DV
section sec_FD21
set_option maxRecDepth 100000
set_option maxHeartbeats 5000000
/-! FD21: dict comprehensions with tuple keys, list(d.values()), len(d). -/
namespace FD
open PySem L2
variable [Tabl]
def dcTurn (asg : D → M Unit) (test : M Bool) (fk fv : M RV) (d : D) (acc : List (D × D)) : M (List (D × D)) := bindM (asg d) fun _ => bindM test fun b => if b then bindM fk fun r1 => bindM fv fun r2 => bindM (escR r2) fun z => fun ρ w => (match peek ρ w r1 with
  | some kd => (match keyT kd with
    | some ks => some (putT acc ks z, ρ, w)
    | none => none)
  | none => none) else pureM acc
section
variable {c : Ct} {F : Fm} {σ : L2.St} {H : Hp} {Q : VK}
end
section
variable {X : Cx} {kx vx tg iter o : Expr} {ifs : List Expr} {scope : Scope} {own : List (Str × Nat)} {pos p apos cpos : Pos} {fi : M (List D)} {js : List Nat} {g : D → M Unit} {tt : M Bool} {fk fv fo : M RV} {k : Nat}
/-! ### list(d.values()) -/
def valsM (fo : M RV) : M RV := bindM fo fun r => fun ρ w => match peek ρ w r with
  | some d => (match pairsD d with
    | some ps => some (.fr (.lst (ps.map (·.2))), ρ, w)
    | none => none)
  | none => none
end
end FD

end sec_FD21
section sec_FD22
set_option maxRecDepth 100000
set_option maxHeartbeats 5000000
/-! FD22: len of a dict, sum and max of a list, list * int, x.index(y) of texts. -/
namespace FD
open PySem L2
variable [Tabl]
section
variable {X : Cx}
def top : List Int → Int
  | [] => 0
  | [a] => a
  | a :: b :: r => if a < top (b :: r) then top (b :: r) else a
/-! ### xs * n -/
def repD : D → D → Option RV
  | .lst ds, .int n => if n ≤ 1000 ∧ -1000 ≤ n ∧ ds.length ≤ 1000 then some (.fr (.lst (List.replicate n.toNat ds).flatten)) else none
  | _, _ => none
theorem RepAll.rep {c : Ct} {da : DA} {G : Hp} {vs : List V} {ds : List D} (h : RepAll c da G vs ds) : ∀ n : Nat, RepAll c da G (List.replicate n vs).flatten (List.replicate n ds).flatten
  | 0 => .nil
  | n + 1 => by
    rw [List.replicate_succ, List.replicate_succ, List.flatten_cons, List.flatten_cons]
    exact h.append (RepAll.rep h n)
theorem opD_rep : OpR X (binaryOp .Mult) (rP2 (ct X) repD) := by
  rintro pins s σ H x y v u Q I rx ry ⟨da, O, d1, d2, r, hO, p1, p2, eg, q⟩
  unfold repD at eg
  split at eg
  · split at eg
    · rename_i ds n hc
      cases eg
      obtain ⟨a, vs, rfl, at_, ra⟩ := p1.lst
      obtain rfl := p2.int
      have l := ra.length
      refine op_rep pins s σ H _ _ v u Q I rx ry ⟨a, n, vs, rfl, rfl, at_, by omega, by omega, ?_, fun p np => q _ _ (Ex.new np) (repN_lst np (RepAll.rep ra _))⟩
      have : vs.length * n.toNat ≤ 1000 * 1000 := Nat.mul_le_mul (by omega) (by omega)
      exact small_fits this
    · cases eg
  · cases eg
/-! ### x.index(y) -/
end
end FD

end sec_FD22
section sec_FD23
set_option maxRecDepth 100000
set_option maxHeartbeats 5000000
/-! FD23: (*a, *b). -/
namespace FD
open PySem L2
variable [Tabl]
section
variable {X : Cx} {a b : Expr} {pos p p2 : Pos} {fa fb : M RV} {x1 : Nat}
def starM (fa fb : M RV) : M RV := bindM fa fun r1 => bindM (escR r1) fun d1 => bindM fb fun r2 => bindM (escR r2) fun d2 => fun ρ w => match seqD d1, seqD d2 with
  | some xs, some ys => if xs.length + ys.length ≤ 1000000 then some (.sh (.tup (xs ++ ys)), ρ, w) else none
  | _, _ => none
/-- a sequence, as it stands in the heap -/
theorem Rep.seq {c : Ct} {da : DA} {O : List Addr} {H : Hp} {v : V} {d : D} {ds : List D} (h : Rep c da (vis O H) v d) (e : seqD d = some ds) : ∃ a vs, v = .ref a ∧ (SqT c.K H a vs ∨ SqL c.K H a vs) ∧ RepAll c da (vis O H) vs ds := by
  cases h with
  | lst s r =>
    cases e
    exact ⟨_, _, rfl, .inr (vis_ex.sl (SqL.of s)), r⟩
  | tup s r =>
    cases e
    exact ⟨_, _, rfl, .inl (.inl (.inl (vis_ex _ _ s))), r⟩
  | ktup s r =>
    cases e
    exact ⟨_, _, rfl, .inl (vis_ex.st s), r⟩
  | _ => cases e
end
end FD

end sec_FD23
section sec_FD24
set_option maxRecDepth 100000
set_option maxHeartbeats 5000000
/-! FD24: x[k] = v, x a slot's own list. -/
namespace FD
open PySem L2
variable [Tabl]
def lputM (i : Nat) (fv fk : M RV) : M Fl := bindM fv fun r1 => bindM (escR r1) fun d => fun ρ0 w0 => (match ownL ρ0 i with
  | some _ => bindM fk (fun r2 => fun ρ w => match ownL ρ i with
    | some ds => (match peek ρ w r2 with
      | some (.int n) => if 0 ≤ n ∧ n < ds.length then some (.nx, ρ.set i (some (.own (.lst (ds.set n.toNat d)))), w) else none
      | _ => none)
    | none => none) ρ0 w0
  | none => none)
section
variable {X : Cx} {e e2 : Expr} {pos p pos' : Pos} {x : Str} {i : Nat} {fk fv : M RV}
theorem fs_lput (hv : PE X (.Name x p) (tVar i)) (hk : FE X e fk) (he : FE X e2 fv) (hs : swapsWithSole [.Subscript (.Name x p) e pos'] e2 pos.line X.env = pure false := by rfl) (hw : swappedStores [.Subscript (.Name x p) e pos'] e2 X.env = pure none := by rfl)
    (h1 : (assignEach [.Subscript (.Name x p) e pos'] X.env).map (·.2) = [assign (.Subscript (.Name x p) e pos') X.env] := by rfl)
    (ha : ∀ v, assign (.Subscript (.Name x p) e pos') X.env v = (do
      let self ← holding [v] (eval (.Name x p) X.env)
      let at_ ← holding [v, self] (eval e X.env)
      standAt pos'
      holding [v, self, at_] (setItem self at_ v)
      release [v, self, at_] []) := by intro _; rfl) :
    FS X (.Assign [.Subscript (.Name x p) e pos'] e2 pos) (lputM i fv fk) := fun F => PS.wk (ps_asg (he F) (pg_sub hv (hk F) set_list ha) hs hw h1) fun E σ H h => by
  obtain ⟨O, ρ, w, fl, ρ', w', S, e, k⟩ := h
  refine tE_then S e fun v O1 ρ1 w1 H1 r1 S1 e1 R1 h1 => ?_
  obtain ⟨d, ρ2, w2, h2, h3⟩ := bindM_some h1
  obtain ⟨rfl, O2, S2, k2, rd⟩ := escR_ok S1 R1.hold h2
  split at h3
  · rename_i ps0 e0
    obtain ⟨a, xs0, s1, q0, _⟩ := own_obj S2 e0
    refine ⟨.ref a, s1, ?_⟩
    refine tE_then S2 h3 fun y O3 ρ3 w3 H3 r3 S3 e3 R3 h4 => ?_
    split at h4
    · rename_i ds e5
      split at h4
      · rename_i n pk
        split at h4
        · rename_i hl
          cases h4
          obtain ⟨a', xs, s3, q3, rr⟩ := own_obj S3 e5
          rw [s1] at s3
          cases s3
          have ey := (R3.hold.peek S3 pk).int
          subst ey
          have len := rr.length
          refine ⟨a, xs, n, n.toNat, rfl, rfl, q3, ?_, ?_⟩
          · rw [len]
            unfold ixN
            rw [if_pos hl.1, if_pos hl.2]
          · obtain ⟨S4, v4⟩ := S3.pokeOwn (ownL_some e5) s1 (.inl ⟨xs.set n.toNat v, ds.set n.toNat d, rfl, rfl, rr.set _ (rd.mono e3)⟩)
            exact k _ O3 _ S4 (by rw [v4]; exact (e1.trans k2).trans e3)
        · cases h4
      · cases h4
    · cases h4
  · cases h3
end
end FD

end sec_FD24
section sec_FD25
set_option maxRecDepth 100000
set_option maxHeartbeats 5000000
/-! FD25: either of two operations; x in a list; x or y by truth; chains; own __len__, __getitem__, own operators. -/
namespace FD
open PySem L2
variable [Tabl]
section
variable {X : Cx} {a b e e2 c1 o : Expr} {rest : List Expr} {pos p p2 : Pos} {fa fb fc fe : M RV} {k j : Nat} {cn : Str}
/-! ### x or y, by truth: texts and numbers -/
def truD : D → Option Bool
  | .non => some false
  | .bl b => some b
  | .int i => some (i != 0)
  | .str y => if y.length ≤ 1000000 then some ((y.length : Int) != 0) else none
  | _ => none
def orVM (fa fb : M RV) : M RV := bindM fa fun r => match r with
  | .sh d => (match truD d with
    | some true => pureM (.sh d)
    | some false => fb
    | none => failM)
  | _ => failM
/-! ### a < b < c -/
def chM (g g' : D → D → Option RV) (fa fb fc : M RV) : M RV := bindM fa fun r1 => bindM fb fun r2 => bindM (lift2 g r1 r2) fun z => match z with
  | .sh (.bl true) => bindM fc fun r3 => lift2 g' r2 r3
  | .sh (.bl false) => pureM (.sh (.bl false))
  | _ => failM
/-! ### own special methods -/
/-- the class cn has the own special method nm -/
structure SpcD (P : Program) (w : World) (K : PySem.W.Frag) (mg : Str → Option Value) (base : Heap) (k : Nat) (cn nm : Str) (n : Nat) (den : List D → W → Option (RV × W)) : Prop where
  ex : ∃ (C f : Addr) (fd : FuncData) (ps : List Str), mg cn = some (.ref C) ∧ PySem.W.selfFirst K C = true ∧ PySem.W.findIn K (.ref C) nm = some (some (.ref f)) ∧ PySem.W.isFn K (.ref f) = true ∧ PySem.W.fnIn K f = true ∧ FnOk P w K mg base CX0 k f fd ps (spD ⟨K, mg⟩ n den) ∧ Binds K fd ps []
/-- an instance of cn that is given away -/
def insR (cn : Str) (r : RV) : M D := bindM (escR r) fun d => match d with
  | .ins c' gs => if c' = cn then pureM d else failM
  | _ => failM
/-- len(o) -/
def lenOM (cn : Str) (den : List D → W → Option (RV × W)) (fa : M RV) : M RV := bindM fa fun r => bindM (insR cn r) fun d => bindM (runD den [d]) fun z => match z with
  | .sh (.int n) => if 0 ≤ n ∧ n ≤ 1000000 then pureM (.sh (.int n)) else failM
  | _ => failM
end
end FD

end sec_FD25
section sec_FD26
set_option maxRecDepth 100000
set_option maxHeartbeats 5000000
/-! FD26: len(o), o[i], a op b by own special methods. -/
namespace FD
open PySem L2
variable [Tabl]
section
variable {X : Cx} {a b e e2 c1 o : Expr} {rest : List Expr} {pos p p2 : Pos} {fa fb fc fe : M RV} {k j : Nat} {cn : Str} {den : List D → W → Option (RV × W)}
/-! ### a op b -/
def opOM (cn : Str) (den : List D → W → Option (RV × W)) (fa fb : M RV) : M RV := bindM fa fun r1 => bindM fb fun r2 => bindM (insR cn r1) fun d1 => bindM (insR cn r2) fun d2 => runD den [d1, d2]
/-! ### o[i] -/
def ixOM (cn : Str) (den : List D → W → Option (RV × W)) (fa fb : M RV) : M RV := bindM fa fun r1 => bindM fb fun r2 => bindM (insR cn r1) fun d1 => bindM (escR r2) fun d2 => runD den [d1, d2]
end
end FD

end sec_FD26
section sec_FD27
set_option maxRecDepth 100000
set_option maxHeartbeats 5000000
/-! FD27: [elt for a in x if .. for b in y if ..]. -/
namespace FD
open PySem L2
variable [Tabl]
theorem wipeE_get {ρ : Env} {i : Nat} {s : Slot} : ∀ {vs : List Nat}, (wipeE ρ vs)[i]? = some (some s) → i ∉ vs ∧ ρ[i]? = some (some s)
  | [], h => ⟨by simp, h⟩
  | v :: vs, h => by
    unfold wipeE at h
    rcases getElem?_set_some h with ⟨rfl, z⟩ | ⟨n, h⟩
    · cases z
    · obtain ⟨m, q⟩ := wipeE_get h
      exact ⟨fun z => (List.mem_cons.mp z).elim (fun y => n y.symm) m, q⟩
/-- a list at Dl grows while expressions run: what stands between two of them -/
structure Grw (c : Ct) (F : Fm) (Dl : Addr) (G : Hp) (σ : L2.St) (O : List Addr) (ρ : Env) (w : W) (H : Hp) (acc : List V) (dacc : List D) : Prop where
  sr : SR c F O ρ w σ H
  mem : Dl ∈ O
  nu : NoSlot ρ σ Dl
  at_ : H Dl = some (.lst acc)
  rep : RepAll c F.dr.da (vis O H) acc dacc
  ex : Ex G (vis O H)
  nF : Dl ∉ F.O0
  n0 : F.H0 Dl = none
  drs : ∀ a ∈ F.dr.as, a ∈ F.O0
section
variable {c : Ct} {F : Fm} {Dl : Addr} {G : Hp} {σ σ' : L2.St} {O O' : List Addr} {ρ ρ' : Env} {w w' : W} {H H' : Hp} {acc : List V} {dacc : List D}
theorem Grw.wipe (g : Grw c F Dl G σ O ρ w H acc dacc) (vs : List Nat) : Grw c F Dl G (L2.wipe σ vs) O (wipeE ρ vs) w H acc dacc where
  sr := g.sr.wipe vs
  mem := g.mem
  nu := fun j e q z => by
    obtain ⟨m, q⟩ := wipeE_get q
    rw [wipe_out m] at z
    exact g.nu j e q z
  at_ := g.at_
  rep := g.rep
  ex := g.ex
  nF := g.nF
  n0 := g.n0
  drs := g.drs
theorem Grw.grow (g : Grw c F Dl G σ O ρ w H acc dacc) (x : Ex H H') : Grw c F Dl G σ O ρ w H' acc dacc where
  sr := g.sr.grow x
  mem := g.mem
  nu := g.nu
  at_ := x _ _ g.at_
  rep := g.rep.mono (vis_mono x)
  ex := g.ex.trans (vis_mono x)
  nF := g.nF
  n0 := g.n0
  drs := g.drs
theorem Grw.in (g : Grw c F Dl G σ O ρ w H acc dacc) : SR c (F.and Dl (.lst acc)) O ρ w σ H := hide_in g.sr g.mem g.nF g.nu g.at_
theorem Grw.out (g : Grw c F Dl G σ O ρ w H acc dacc) (S : SR c (F.and Dl (.lst acc)) O' ρ' w' σ' H') (x : Ex (vis O H) (vis O' H')) : Grw c F Dl G σ' O' ρ' w' H' acc dacc := by
  obtain ⟨S2, q2, m2, u2⟩ := S.out g.nF g.n0 g.drs
  exact ⟨S2, m2, u2, q2, g.rep.mono x, g.ex.trans x, g.nF, g.n0, g.drs⟩
theorem Grw.add (g : Grw c F Dl G σ O ρ w H acc dacc) {v : V} {d : D} (r : Rep c F.dr.da (vis O H) v d) : Grw c F Dl G σ O ρ w (upd H Dl (.lst (acc ++ [v]))) (acc ++ [v]) (dacc ++ [d]) where
  sr := g.sr.poke g.at_ (fun _ z => nomatch z) g.mem g.nF g.nu (.lst (acc ++ [v]))
  mem := g.mem
  nu := g.nu
  at_ := upd_same
  rep := by
    rw [vis_upd g.mem]
    exact g.rep.snoc r
  ex := by
    rw [vis_upd g.mem]
    exact g.ex
  nF := g.nF
  n0 := g.n0
  drs := g.drs
end
section
variable {c : Ct} {F : Fm} {σ : L2.St} {H : Hp} {Q : VK}
end
section
variable {X : Cx} {elt tg iter tg1 iter1 : Expr} {ifs ifs1 : List Expr} {scope : Scope} {own : List (Str × Nat)} {vs1 : List Nat} {pos spos py : Pos} {fi fi1 : M (List D)} {js js1 : List Nat} {g g1 : D → M Unit} {tt tt1 : M Bool} {fe : M RV} {i : Nat} {y : Str}
end
end FD

end sec_FD27
section sec_FD28
set_option maxRecDepth 100000
set_option maxHeartbeats 5000000
/-! FD28: repr of plain values. -/
namespace FD
open PySem L2
variable [Tabl]
section
variable {X : Cx}
def reprS : List D → Option RV
  | [.non] => some (.sh (.str "None"))
  | [.bl b] => some (.sh (.str (if b then "True" else "False")))
  | [.int i] => if i.natAbs.log2 < 1920 then some (.sh (.str (toString i))) else none
  | [.str x] => if (reprText x).length ≤ 1000000 then some (.sh (.str (reprText x))) else none
  | _ => none
theorem bD_reprS : CallR X (.builtin "repr") (rPure (ct X) reprS) := by
  intro pins s σ H xs us Q I r h
  obtain ⟨da, O, ds, rv, hO, p, eg, q⟩ := h
  unfold reprS at eg
  split at eg
  · cases eg
    obtain ⟨v, rfl, P⟩ := p.one
    rw [P.non] at r
    cases r with
    | cons r1 rr =>
      cases rr
      cases r1
      exact PySem.P.repr_of_none ⟨.str _, H, I.tok _, ⟨_, rfl⟩, q _ _ (Ex.refl _) (.str _)⟩
  · cases eg
    obtain ⟨v, rfl, P⟩ := p.one
    rw [P.bl] at r
    cases r with
    | cons r1 rr =>
      cases rr
      cases r1
      exact PySem.P.repr_of_bool ⟨.str _, H, I.tok _, ⟨_, rfl⟩, q _ _ (Ex.refl _) (.str _)⟩
  · split at eg
    · rename_i hl
      cases eg
      obtain ⟨v, rfl, P⟩ := p.one
      rw [P.int] at r
      cases r with
      | cons r1 rr =>
        cases rr
        obtain ⟨t, rfl⟩ := r1
        exact PySem.P.repr_of_int hl ⟨.str _, H, I.tok _, ⟨_, rfl⟩, q _ _ (Ex.refl _) (.str _)⟩
    · cases eg
  · split at eg
    · rename_i hl
      cases eg
      obtain ⟨v, rfl, P⟩ := p.one
      rw [P.str] at r
      cases r with
      | cons r1 rr =>
        cases rr
        obtain ⟨t, rfl⟩ := r1
        exact PySem.P.repr_of_str ⟨.str _, H, I.tok _, ⟨_, rfl⟩, q _ _ (Ex.refl _) (.str _)⟩ (small_fits hl)
    · cases eg
  · cases eg
def orN (g1 g2 : List D → Option RV) (ds : List D) : Option RV := match g1 ds with
  | some r => some r
  | none => g2 ds
theorem bD_or {f : Value} {g1 g2 : List D → Option RV} (h1 : CallR X f (rPure (ct X) g1)) (h2 : CallR X f (rPure (ct X) g2)) : CallR X f (rPure (ct X) (orN g1 g2)) := by
  intro pins s σ H xs us Q I r h
  obtain ⟨da, O, ds, rv, hO, p, eg, q⟩ := h
  unfold orN at eg
  split at eg
  · rename_i e
    cases eg
    exact h1 pins s σ H xs us Q I r ⟨da, O, ds, _, hO, p, e, q⟩
  · exact h2 pins s σ H xs us Q I r ⟨da, O, ds, rv, hO, p, eg, q⟩
end
end FD

end sec_FD28
section sec_FD29
set_option maxRecDepth 100000
set_option maxHeartbeats 5000000
/-! FD29: a, b = x, y by a tuple that is taken apart (some of the names are cells): what is new stays new. -/
namespace FD
open PySem L2
variable [Tabl]
theorem Got.grow {c : Ct} {da : DA} {O : List Addr} {H H' : Hp} (e : Ex H H') : ∀ {P : List Addr} {rs : List RV} {vs : List V}, Got c da O H P rs vs → Got c da O H' P rs vs
  | _, _, _, .nil => .nil
  | _, _, _, .sh h r => .sh (h.mono (vis_mono e)) (Got.grow e r)
  | _, _, _, .fr h1 h2 h3 h4 r => .fr h1 h2 (e _ _ h3) (h4.mono (vis_mono e)) (Got.grow e r)
section
variable {X : Cx} {e : Expr} {es ts : List Expr} {pos p pt pt2 : Pos} {x : Str} {i kt k2 : Nat} {is : List Nat} {fp : M (List RV)}
end
end FD

end sec_FD29
section sec_FD30
set_option maxRecDepth 100000
set_option maxHeartbeats 5000000
/-! FD30: o.m(k = e, ..), every parameter by its name, in order. -/
namespace FD
open PySem L2
variable [Tabl]
structure FK (X : Cx) (kws : List Keyword) (f : M (List RV)) : Prop where
  run : ∀ F, PK X kws (tA (ct X) F f)
  len : ∀ ρ w rs ρ' w', f ρ w = some (rs, ρ', w') → rs.length = kws.length
theorem PK.wk {X : Cx} {kws : List Keyword} {t t' : TA} (h : PK X kws t) (k : ∀ σ H Q, t' σ H Q → t σ H Q) : PK X kws t' := ⟨fun p pins s σ H Q I q => h.run p pins s σ H Q I (k σ H Q q)⟩
/-- a method whose parameters are given by name -/
structure MkwD (P : Program) (w : World) (K : PySem.W.Frag) (mg : Str → Option Value) (base : Heap) (k : Nat) (cn m : Str) (n : Nat) (ks : List Str) (den : List D → W → Option (RV × W)) : Prop where
  ex : ∃ (C f : Addr) (fd : FuncData) (ps : List Str), mg cn = some (.ref C) ∧ Cls K C ∧ Meth K C m f ∧ FnOk P w K mg base CX0 k f fd ps (spD ⟨K, mg⟩ n den) ∧
    ∀ (s : Shared) (self : Value) (ws : List Value), (self :: ws).length = ps.length → BindsTo s fd ⟨[self], ks.zip ws⟩ (ps.zip (self :: ws))
section
variable {X : Cx} {e o : Expr} {kws : List Keyword} {pos apos kpos : Pos} {m cn : Str} {nm : Option Str} {k j n : Nat} {ks : List Str} {den : List D → W → Option (RV × W)} {fa g : M (List RV)} {fo fe : M RV}
theorem fk_nil : FK X [] (pureM []) := ⟨fun F => PK.wk pk_nil fun σ H Q q => by
  obtain ⟨O, ρ, w, r, ρ', w', S, e, k⟩ := q
  cases e
  exact k [] O H S (Ex.refl _) .nil, fun ρ w rs ρ' w' h => by cases h; rfl⟩
theorem fk_cons (ha : FE X e fe) (hr : FK X kws g) : FK X (⟨nm, e, kpos⟩ :: kws) (consA fe g) := ⟨fun F => PK.wk (pk_cons (ha F) (hr.run F)) fun σ H Q q => by
  obtain ⟨O, ρ, w, r, ρ', w', S, e, k⟩ := q
  refine tE_then S e fun x O1 ρ1 w1 H1 r1 S1 e1 R1 h1 => ?_
  refine tA_then S1 h1 fun vs O2 ρ2 w2 H2 rs S2 e2 R2 _ h2 => ?_
  cases h2
  exact k (x :: vs) O2 H2 S2 (e1.trans e2) (.cons (R1.hold.mono e2) R2), fun ρ w rs ρ' w' h => by
    obtain ⟨r, ρ1, w1, _, h1⟩ := bindM_some h
    obtain ⟨rs', ρ2, w2, h2, h3⟩ := bindM_some h1
    cases h3
    simp [hr.len _ _ _ _ _ h2]⟩
end
end FD

end sec_FD30
section sec_FD31
set_option maxRecDepth 100000
set_option maxHeartbeats 5000000
/-! FD31: x.clear(), x.reverse(), e[::-1]. -/
namespace FD
open PySem L2
variable [Tabl]
/-- an owned list becomes another one, nothing is asked -/
def pokeM (g : List D → List D) (i : Nat) : M RV := fun ρ w => match ownL ρ i with
  | some ds => some (.sh .non, ρ.set i (some (.own (.lst (g ds)))), w)
  | none => none
section
variable {X : Cx} {e : Expr} {p apos cpos p1 p2 p3 pos : Pos} {x : Str} {i k : Nat} {fe : M RV}
theorem fe_reverse (hv : PE X (.Name x p) (tVar i)) (hbase : attributeBase (.Name x p) "reverse" X.env (eval (.Name x p) X.env) = eval (.Name x p) X.env := by rfl) (hline : (apos.endLine == cpos.line) = true := by rfl) :
    FE X (.Call (.Attribute (.Name x p) "reverse" apos) [] [] cpos) (pokeM List.reverse i) := fun F =>
  PE.wk (pe_bm0 PySem.F.plainAttrs_list PySem.F.slot_list_reverse PySem.F.type_list_reverse mt_reverse hv hbase hline) fun σ H Q h => by
    obtain ⟨O, ρ, w, r, ρ', w', S, e, k⟩ := h
    unfold pokeM at e
    split at e
    · rename_i ds e0
      cases e
      obtain ⟨a, xs, h1, h2, r1⟩ := own_obj S e0
      obtain ⟨S3, v3⟩ := S.pokeOwn (ownL_some e0) h1 (.inl ⟨xs.reverse, ds.reverse, rfl, rfl, r1.reverse⟩)
      exact ⟨_, h1, .inl ⟨rfl, xs, .inl (.inl h2)⟩, a, xs, rfl, rfl, h2, k _ O _ S3 (by rw [v3]; exact Ex.refl _) .non⟩
    · cases e
end
end FD

end sec_FD31
section sec_FD32
set_option maxRecDepth 100000
set_option maxHeartbeats 5000000
/-! FD32: defs that are called where no repr is under way (repr of lists inside a def). -/
namespace FD
open PySem L2
open PyProof.Rows (envOfC)
variable [Tabl]
structure CalG (P : Program) (w : World) (K : PySem.W.Frag) (mg : Str → Option Value) (base : Heap) (k : Nat) (x : Str) (n : Nat) (den : List D → W → Option (RV × W)) : Prop where
  ex : ∃ (f : Addr) (fd : FuncData) (ps : List Str), LG.FnG P w K mg base k f fd ps (spD ⟨K, mg⟩ n den) ∧ mg x = some (.ref f) ∧ PySem.W.keepIn K (.ref f) = true ∧ Binds K fd ps []
section
variable {X : Cx} {k j n : Nat} {f : Addr} {fd : FuncData} {ps : List Str} {sp : Sp} {x : Str} {p pos : Pos} {e : Expr} {es : List Expr} {t : TA} {den : List D → W → Option (RV × W)} {fa : M (List RV)}
end
section
variable {P : Program} {w : World} {K : PySem.W.Frag} {mg : Str → Option Value} {base : Heap}
end
end FD

end sec_FD32
section sec_FD33
set_option maxRecDepth 100000
set_option maxHeartbeats 5000000
/-! FD33: repr of small dicts. -/
namespace FD
open PySem L2
variable [Tabl]
section
variable {X : Cx} {pins : List (Addr × PySem.Obj)} {σ : L2.St} {H : Hp} {s : Shared}
theorem keyStr {x : Str} {v : Value} (h : keyIs (.inr x) v = true) : ∃ t, v = .str x t := by
  rcases keyIs_shape h with ⟨i, t, e, _⟩ | ⟨y, t, e, rfl⟩
  · cases e
  · cases e
    exact ⟨t, rfl⟩
theorem dic_reads {a : Addr} {kvs : List (Key × V)} (I : Inv X pins σ H s) (e : H a = some (.dK kvs)) : (kvs = [] → ∃ as, Reads s.heap (.ref a) (.dict []) as ∧ sysModules ∉ as) ∧ ∀ x i, kvs = [(.inr x, .int i)] → ∃ as, Reads s.heap (.ref a) (.dict [(.str x, .int i)]) as ∧ sysModules ∉ as := by
  obtain ⟨_, ns, vs, kv, o, es, ep, ho, hx, hd, _, pr, _⟩ := dk_of I.hok e
  have ne : sysModules ≠ a := fun z => by
    rw [← z] at ns
    simp at ns
  constructor
  · rintro rfl
    cases kv
    generalize hl : es.toList = l at pr
    cases pr
    exact ⟨_, .dict (kvs := []) ho hx.1 hd (by rw [hl]; exact .nil) (by rw [hl]; exact .nil), by simpa using ne⟩
  · rintro x i rfl
    cases kv with
    | cons q1 q2 =>
      cases q2
      generalize hl : es.toList = l at pr
      cases pr with
      | cons k1 k2 k3 =>
        cases k3
        rename_i bb nd en
        obtain ⟨bk, bv⟩ := bb
        obtain ⟨j1, u, j2⟩ := q1
        have j1' : (Sum.inr x : Key) = bk := j1
        subst j1'
        obtain ⟨t, ek⟩ := keyStr (x := x) (v := en.key) k1
        have ev : en.val = .int i u := k2.trans j2
        have r1 : Reads s.heap en.key (.str x) [] := by
          rw [ek]
          exact .str x t
        have r2 : Reads s.heap en.val (.int i) [] := by
          rw [ev]
          exact .int i u
        exact ⟨_, .dict (kvs := [(.str x, .int i)]) (as := [] ++ []) (bs := [] ++ []) ho hx.1 hd (by rw [hl]; exact .cons r1 .nil) (by rw [hl]; exact .cons r2 .nil), by simpa using ne⟩
end
end FD

end sec_FD33
section sec_FD34
set_option maxRecDepth 100000
set_option maxHeartbeats 5000000
/-! FD34: repr([e, ..]), whose items stay with their owners. -/
namespace FD
open PySem L2
variable [Tabl]
section
variable {X : Cx} {es : List Expr} {p p2 pos : Pos} {fa : M (List RV)} {k : Nat}
end
end FD

end sec_FD34
section sec_FD35
set_option maxRecDepth 100000
set_option maxHeartbeats 5000000
/-! FD35: lists and tuples of flat items: x in y, l.count(x), l.index(x). -/
namespace FD
open PySem L2
variable [Tabl]
section
variable {X : Cx}
def isLst (r : RV) : M Unit := fun ρ w => match peek ρ w r with
  | some (.lst _) => some ((), ρ, w)
  | _ => none
def lmM (g : D → D → Option RV) (fo fe : M RV) : M RV := bindM fo fun r1 => bindM (isLst r1) fun _ => bindM fe fun r2 => lift2 g r1 r2
variable {o e : Expr} {fo fe : M RV} {apos cpos : Pos} {name : Str} {id : String} {rr : V → List V → Hp → VK → Prop} {g : D → D → Option RV}
end
end FD

end sec_FD35
section sec_FD36
set_option maxRecDepth 100000
set_option maxHeartbeats 5000000
/-! FD36: f(.., x, ..) where x is an owned list that f only reads: what comes out holds tuples and flat values alone, x stays owned. -/
namespace FD
open PySem L2
variable [Tabl]
mutual
def ptD : D → Bool
  | .non => true
  | .bl _ => true
  | .int _ => true
  | .str _ => true
  | .tup ds => ptDs ds
  | _ => false
def ptDs : List D → Bool
  | [] => true
  | d :: r => ptD d && ptDs r
end
section
variable {c : Ct} {da : DA} {O0 O : List Addr} {H : Hp}
mutual
theorem Rep.pt (n : ∀ b xs, H b = some (.tup xs) → b ∉ O) : ∀ {v : V} {d : D}, Rep c da (vis O0 H) v d → ptD d = true → Rep c da (vis O H) v d
  | _, _, .non, _ => .non
  | _, _, .bl b, _ => .bl b
  | _, _, .int i, _ => .int i
  | _, _, .str x, _ => .str x
  | _, _, .tup e r, l => .tup (by rw [vis_out (n _ _ (vis_some e).2)]; exact (vis_some e).2) (RepAll.pt n r (by simpa [ptD] using l))
  | _, _, .ty _, l => by simp [ptD] at l
  | _, _, .draw _, l => by simp [ptD] at l
  | _, _, .obj _, l => by simp [ptD] at l
  | _, _, .tok _, l => by simp [ptD] at l
  | _, _, .ktup _ _, l => by simp [ptD] at l
  | _, _, .lst _ _, l => by simp [ptD] at l
  | _, _, .scr _, l => by simp [ptD] at l
  | _, _, .dK _ _, l => by simp [ptD] at l
  | _, _, .dT _ _, l => by simp [ptD] at l
  | _, _, .fdT _ _, l => by simp [ptD] at l
  | _, _, .exc _ _ _ _, l => by simp [ptD] at l
  | _, _, .exo _ _, l => by simp [ptD] at l
  | _, _, .exn _ _, l => by simp [ptD] at l
  | _, _, .ins _ _ _, l => by simp [ptD] at l
  | _, _, .lam _ _ _ _ _, l => by simp [ptD] at l
theorem RepAll.pt (n : ∀ b xs, H b = some (.tup xs) → b ∉ O) : ∀ {v : List V} {d : List D}, RepAll c da (vis O0 H) v d → ptDs d = true → RepAll c da (vis O H) v d
  | _, _, .nil, _ => .nil
  | _, _, .cons a r, l => by
    simp only [ptDs, Bool.and_eq_true] at l
    exact .cons (Rep.pt n a l.1) (RepAll.pt n r l.2)
end
end
def peekV (ρ : Env) : RV → Option D
  | .sh d => some d
  | .fr d => some d
  | .ow i => slotD ρ[i]?
  | .ob _ => none
def peeksV (ρ : Env) : List RV → Option (List D)
  | [] => some []
  | r :: rs => match peekV ρ r with
    | some d => (match peeksV ρ rs with | some ds => some (d :: ds) | none => none)
    | none => none
section
variable {c : Ct} {F : Fm} {O : List Addr} {ρ : Env} {w : W} {σ : L2.St} {H : Hp}
end
def callB (den : List D → W → Option (RV × W)) (fa : M (List RV)) : M RV := bindM fa fun rs => fun ρ w => match peeksV ρ rs with
  | some ds => (match den ds w with
    | some (.sh d, w') => if ptD d = true ∧ w'.st.isEmpty = true then some (.sh d, ρ, w') else none
    | _ => none)
  | none => none
theorem callB_some {den : List D → W → Option (RV × W)} {rs : List RV} {ρ : Env} {w : W} {z : RV × Env × W} (h : (match peeksV ρ rs with
  | some ds => (match den ds w with
    | some (.sh d, w') => if ptD d = true ∧ w'.st.isEmpty = true then some (RV.sh d, ρ, w') else none
    | _ => none)
  | none => none) = some z) : ∃ ds d w', peeksV ρ rs = some ds ∧ den ds w = some (.sh d, w') ∧ ptD d = true ∧ w'.st = [] ∧ z = (.sh d, ρ, w') := by
  split at h
  · rename_i ds e
    split at h
    · rename_i d w' e2
      split at h
      · rename_i hp
        exact ⟨ds, d, w', e, e2, hp.1, by simpa using hp.2, (Option.some.inj h).symm⟩
      · cases h
    · cases h
  · cases h
section
variable {X : Cx} {e : Expr} {es : List Expr} {pos p : Pos} {x : Str} {k j n : Nat} {den : List D → W → Option (RV × W)} {fa : M (List RV)}
end
end FD

end sec_FD36
section sec_FD37
set_option maxRecDepth 100000
set_option maxHeartbeats 5000000
/-! FD37: sorted(list) of plain data of one shape (lists or tuples of numbers and texts). -/
namespace FD
open PySem PySem.Spec PyProof.Rows L2 PySem.W
variable [Tabl]
section
variable {X : Cx}
end
end FD

end sec_FD37
section sec_FD38
set_option maxRecDepth 100000
set_option maxHeartbeats 5000000
/-! FD38: a, b = list. -/
namespace FD
open PySem L2
variable [Tabl]
section
variable {X : Cx} {es : List Expr} {pos : Pos} {js : List Nat}
end
end FD

end sec_FD38
section sec_FD39
set_option maxRecDepth 100000
set_option maxHeartbeats 5000000
/-! FD39: defs that call themselves. -/
namespace FD
open PySem L2
variable [Tabl]
section
variable {P : Program} {w : World} {K : PySem.W.Frag} {mg : Str → Option Value} {base : Heap}
end
end FD

end sec_FD39
section sec_FD40
set_option maxRecDepth 100000
set_option maxHeartbeats 5000000
/-! FD40: tuples turned about. -/
namespace FD
open PySem PySem.Spec PyProof.Rows L2
section
variable {prog : Program} {w : World} {A : Around} {E : Value → Shared → Prop} {s : Shared}
theorem range_pick {α : Type} : ∀ l : List α, (List.range l.length).filterMap (fun k => l[k]?) = l
  | [] => rfl
  | a :: l => by
    rw [List.length_cons, List.range_succ_eq_map, List.filterMap_cons_some (b := a) (by simp), List.filterMap_map]
    have e : ((fun k => (a :: l)[k]?) ∘ Nat.succ) = fun k => l[k]? := by
      funext k
      simp
    rw [e, range_pick l]
theorem fm_congr {α β : Type} {f g : α → Option β} : ∀ {l : List α}, (∀ a ∈ l, f a = g a) → l.filterMap f = l.filterMap g
  | [], _ => rfl
  | a :: l, h => by
    have e := fm_congr fun b hb => h b (List.mem_cons_of_mem _ hb)
    rw [List.filterMap_cons, List.filterMap_cons, h a List.mem_cons_self, e]
end
section
variable {X : Cx} {e : Expr} {te : TE} {k : Nat} {p1 p2 p3 pos : Pos}
variable [Tabl] {fe : M RV}
end
end FD

end sec_FD40
section sec_FD41
set_option maxRecDepth 100000
set_option maxHeartbeats 5000000
/-! FD41: an own list that is only lent while an expression is reckoned. -/
namespace FD
open PySem L2
variable [Tabl]
end FD

end sec_FD41
section sec_FD42
set_option maxRecDepth 100000
set_option maxHeartbeats 5000000
/-! FD42: k in d, for dicts whose keys are tuples of numbers and texts. -/
namespace FD
open PySem L2
variable [Tabl]
section
variable {X : Cx} {a b : Expr} {pos : Pos} {fa fb : M RV} {k : Nat}
end
end FD

end sec_FD42
section sec_FD49
set_option maxRecDepth 100000
set_option maxHeartbeats 1000000
/-! FD49: e == [], whatever e holds. -/
namespace FD
open PySem L2
variable [Tabl]
def eq0D : D → D → Option RV
  | .lst (_ :: _), .lst [] => some (.sh (.bl false))
  | d1, d2 => eqD d1 d2
theorem eq0_nil : eq0D (.lst []) (.lst []) = some (.sh (.bl true)) := rfl
section
variable {X : Cx} {k : Nat}
theorem opD_eq0 (hr : Room k X.A) : OpR X (compareOp .Eq) (rP2 (ct X) eq0D) := by
  intro pins s σ H x y v u Q I rx ry h
  obtain ⟨da, O, d1, d2, r, hO, h1, h2, eg, q⟩ := h
  unfold eq0D at eg
  split at eg
  · cases eg
    obtain ⟨a, xs, rfl, ha, ra⟩ := h1.lst
    obtain ⟨b, ys, rfl, hb, rb⟩ := h2.lst
    cases rx
    cases ry
    cases rb
    cases ra with
    | cons r1 r2 =>
      obtain ⟨zs, vz, ⟨o1, m1, at1, c1, w1, e1⟩, _⟩ := I.list (show SqL X.K H a _ from .inl (.inl ha))
      obtain ⟨ts, vt, ⟨o2, m2, at2, c2, w2, e2⟩, _⟩ := I.list (show SqL X.K H b _ from .inl (.inl hb))
      cases vt
      cases vz with
      | cons z1 z2 =>
        have hu := hr.units
        exact SeqAt.RcAt.lists_lengths ⟨o1, at1, c1, m1, e1⟩ ⟨o2, at2, c2, m2, e2⟩ (by simp) (by omega) X.prog X.w X.xe _ ⟨.bl _, H, I, rfl, q _ _ (Ex.refl _) (.bl _)⟩
  · exact opD_eq hr pins s σ H x y v u Q I rx ry ⟨da, O, _, _, r, hO, h1, h2, eg, q⟩
end
/-! max of two numbers -/
section
variable {X : Cx}
end
end FD

end sec_FD49
section sec_SM
set_option maxRecDepth 100000
set_option maxHeartbeats 5000000
/-! SM: the place of sys.modules is never one of ours; repr of lists and tuples that hold small dicts. -/
namespace FD
open PySem L2
variable [Tabl]
abbrev SmB (base : Heap) : Prop := LG.SmAt base
mutual
inductive Dq (K : PySem.W.Frag) (H : Hp) : V → PyData → Prop
  | plain {v : V} {d : PyData} : Dp K H v d → Dq K H v d
  | dic0 {a : Addr} : H a = some (.dK []) → Dq K H (.ref a) (.dict [])
  | dic1 {a : Addr} {x : Str} {i : Int} : H a = some (.dK [(.inr x, .int i)]) → Dq K H (.ref a) (.dict [(.str x, .int i)])
  | dit2 {a : Addr} {m n i : Int} : H a = some (.dT [([.inl m, .inl n], .int i)]) → Dq K H (.ref a) (.dict [(.tuple [.int m, .int n], .int i)])
  | dit3 {a : Addr} {m n : Str} {i : Int} : H a = some (.dT [([.inr m, .inr n], .int i)]) → Dq K H (.ref a) (.dict [(.tuple [.str m, .str n], .int i)])
  | lst {a : Addr} {xs : List V} {ds : List PyData} : SqL K H a xs → DqAll K H xs ds → Dq K H (.ref a) (.list ds)
  | tup {a : Addr} {xs : List V} {ds : List PyData} : SqT K H a xs → DqAll K H xs ds → Dq K H (.ref a) (.tuple ds)
inductive DqAll (K : PySem.W.Frag) (H : Hp) : List V → List PyData → Prop
  | nil : DqAll K H [] []
  | cons {v : V} {vs : List V} {d : PyData} {ds : List PyData} : Dq K H v d → DqAll K H vs ds → DqAll K H (v :: vs) (d :: ds)
end
section
variable {X : Cx} {pins : List (Addr × PySem.Obj)} {σ : L2.St} {H : Hp} {s : Shared}
/-- no list of ours stands there -/
theorem sm_list_ne (S : SmB X.base) (I : Inv X pins σ H s) {a : Addr} {o : PySem.Obj} {vs : Array Value} {n : Nat} (e : s.heap.get? a = some o) (d : o.data = .seq vs n) : sysModules ≠ a := fun z => by
  obtain ⟨u, es, ep, h1, h2⟩ := S
  have h3 := I.bk _ _ h1
  rw [z, e] at h3
  cases h3
  rw [d] at h2
  cases h2
theorem dit_reads {a : Addr} {m n v : Int} (I : Inv X pins σ H s) (e : H a = some (.dT [([.inl m, .inl n], .int v)])) : ∃ as, Reads s.heap (.ref a) (.dict [(.tuple [.int m, .int n], .int v)]) as ∧ sysModules ∉ as := by
  obtain ⟨_, low, xs, kt, o, es, ep, ho, hx, hd, he, _, _⟩ := dt_of I.hok e
  have apart : sysModules ≠ a := fun z => by
    rw [← z] at low
    simp at low
  obtain ⟨b, u, rfl, eb, ru⟩ : ∃ (b : Addr) (u : Value), xs = [([.inl m, .inl n], b, u)] ∧ H b = some (.tup [.int m, .int n]) ∧ RelV (.int v) u := by
    cases kt with
    | cons q1 q2 =>
      cases q2
      rename_i q _ _
      obtain ⟨k, b, u⟩ := q
      obtain ⟨rfl, e2, r⟩ := q1
      exact ⟨b, u, rfl, e2, r⟩
  obtain ⟨t, rfl⟩ := ru
  obtain ⟨zs, vz, ⟨ob, at1, c1, w1, d1⟩, _⟩ := I.tuple (show SqT X.K H b [.int m, .int n] from .inl (.inl eb))
  have rk : ReadsAll s.heap zs [.int m, .int n] [] := by
    cases vz with
    | cons r1 r2 =>
      cases r2 with
      | cons r3 r4 =>
        cases r4
        obtain ⟨t1, rfl⟩ := r1
        obtain ⟨t2, rfl⟩ := r3
        exact .cons (as := []) (bs := []) (.int m t1) (.cons (as := []) (bs := []) (.int n t2) .nil)
  have rt : Reads s.heap (.ref b) (.tuple [.int m, .int n]) [] := .tuple at1 c1 d1 rk
  refine ⟨_, .dict (kvs := [(.tuple [.int m, .int n], .int v)]) (as := [] ++ []) (bs := [] ++ []) ho hx.1 hd ?_ ?_, by simpa using apart⟩
  · rw [he]
    exact .cons rt .nil
  · rw [he]
    exact .cons (.int v t) .nil
/-- data without dicts keeps clear of it, too -/
theorem ditS_reads {a : Addr} {m n : Str} {v : Int} (I : Inv X pins σ H s) (e : H a = some (.dT [([.inr m, .inr n], .int v)])) : ∃ as, Reads s.heap (.ref a) (.dict [(.tuple [.str m, .str n], .int v)]) as ∧ sysModules ∉ as := by
  obtain ⟨_, low, xs, kt, o, es, ep, ho, hx, hd, he, _, _⟩ := dt_of I.hok e
  have apart : sysModules ≠ a := fun z => by
    rw [← z] at low
    simp at low
  obtain ⟨b, u, rfl, eb, ru⟩ : ∃ (b : Addr) (u : Value), xs = [([.inr m, .inr n], b, u)] ∧ H b = some (.tup [.str m, .str n]) ∧ RelV (.int v) u := by
    cases kt with
    | cons q1 q2 =>
      cases q2
      rename_i q _ _
      obtain ⟨k, b, u⟩ := q
      obtain ⟨rfl, e2, r⟩ := q1
      exact ⟨b, u, rfl, e2, r⟩
  obtain ⟨t, rfl⟩ := ru
  obtain ⟨zs, vz, ⟨ob, at1, c1, w1, d1⟩, _⟩ := I.tuple (show SqT X.K H b [.str m, .str n] from .inl (.inl eb))
  have rk : ReadsAll s.heap zs [.str m, .str n] [] := by
    cases vz with
    | cons r1 r2 =>
      cases r2 with
      | cons r3 r4 =>
        cases r4
        obtain ⟨t1, rfl⟩ := r1
        obtain ⟨t2, rfl⟩ := r3
        exact .cons (as := []) (bs := []) (.str m t1) (.cons (as := []) (bs := []) (.str n t2) .nil)
  have rt : Reads s.heap (.ref b) (.tuple [.str m, .str n]) [] := .tuple at1 c1 d1 rk
  refine ⟨_, .dict (kvs := [(.tuple [.str m, .str n], .int v)]) (as := [] ++ []) (bs := [] ++ []) ho hx.1 hd ?_ ?_, by simpa using apart⟩
  · rw [he]
    exact .cons rt .nil
  · rw [he]
    exact .cons (.int v t) .nil
/-- data without dicts keeps clear of it, too -/
theorem plain_reads (S : SmB X.base) (I : Inv X pins σ H s) : ∀ {u : Value} {d : PyData} {as : List Addr}, Reads s.heap u d as → d.hasDict = false → sysModules ∉ as := by
  intro u d as r
  exact Reads.rec (motive_1 := fun u d as _ => d.hasDict = false → sysModules ∉ as) (motive_2 := fun us ds as _ => PyData.hasDictAll ds = false → sysModules ∉ as)
    (fun _ => List.not_mem_nil) (fun _ _ => List.not_mem_nil) (fun _ _ _ => List.not_mem_nil) (fun _ _ _ => List.not_mem_nil)
    (fun e _ d _ ih h m => by
      rcases List.mem_cons.mp m with z | z
      · exact sm_list_ne S I e d z
      · exact ih (by simpa [PyData.hasDict] using h) z)
    (fun e _ d _ ih h => ih (by simpa [PyData.hasDict] using h))
    (fun e _ d _ _ _ _ h => by simp [PyData.hasDict] at h)
    (fun _ => List.not_mem_nil)
    (fun _ _ i1 i2 h m => by
      rw [PyData.hasDictAll, Bool.or_eq_false_iff] at h
      rcases List.mem_append.mp m with z | z
      · exact i1 h.1 z
      · exact i2 h.2 z) r
theorem hasDict_dp {K : PySem.W.Frag} : ∀ {v : V} {d : PyData}, Dp K H v d → d.hasDict = false := by
  intro v d h
  exact Dp.rec (motive_1 := fun _ d _ => d.hasDict = false) (motive_2 := fun _ ds _ => PyData.hasDictAll ds = false)
    (by simp [PyData.hasDict]) (fun _ => by simp [PyData.hasDict]) (fun _ => by simp [PyData.hasDict]) (fun _ => by simp [PyData.hasDict])
    (fun _ _ ih => by simpa [PyData.hasDict] using ih) (fun _ _ ih => by simpa [PyData.hasDict] using ih) (by simp [PyData.hasDictAll]) (fun _ _ i1 i2 => by simp [PyData.hasDictAll, i1, i2]) h
mutual
theorem Dq.reads (S : SmB X.base) (I : Inv X pins σ H s) : ∀ {v : V} {d : PyData}, Dq X.K H v d → ∀ {u : Value}, RelV v u → ∃ as, Reads s.heap u d as ∧ sysModules ∉ as
  | _, _, .plain h, _, r => by
    obtain ⟨as, q⟩ := Dp.reads I _ _ _ h r
    exact ⟨as, q, plain_reads S I q (hasDict_dp h)⟩
  | _, _, .dic0 h, _, r => by
    cases r
    exact (dic_reads I h).1 rfl
  | _, _, .dic1 h, _, r => by
    cases r
    exact (dic_reads I h).2 _ _ rfl
  | _, _, .dit2 h, _, r => by
    cases r
    exact dit_reads I h
  | _, _, .dit3 h, _, r => by
    cases r
    exact ditS_reads I h
  | _, _, .lst hs ha, _, r => by
    cases r
    obtain ⟨zs, vz, ⟨ob, m, at1, c1, _, d1⟩, _⟩ := I.list hs
    obtain ⟨as, hr, ns⟩ := DqAll.reads S I ha vz
    refine ⟨_, Reads.list at1 c1 d1 hr, fun m => ?_⟩
    rcases List.mem_cons.mp m with z | z
    · exact sm_list_ne S I at1 d1 z
    · exact ns z
  | _, _, .tup hs ha, _, r => by
    cases r
    obtain ⟨zs, vz, ⟨ob, at1, c1, m, d1⟩, _⟩ := I.tuple hs
    obtain ⟨as, hr, ns⟩ := DqAll.reads S I ha vz
    exact ⟨_, Reads.tuple at1 c1 d1 hr, ns⟩
theorem DqAll.reads (S : SmB X.base) (I : Inv X pins σ H s) : ∀ {vs : List V} {ds : List PyData}, DqAll X.K H vs ds → ∀ {us : List Value}, Vals vs us → ∃ as, ReadsAll s.heap us ds as ∧ sysModules ∉ as
  | _, _, .nil, _, r => by
    cases r
    exact ⟨_, ReadsAll.nil, List.not_mem_nil⟩
  | _, _, .cons h1 h2, _, r => by
    cases r with
    | cons r1 r2 =>
      obtain ⟨as, q1, n1⟩ := Dq.reads S I h1 r1
      obtain ⟨bs, q2, n2⟩ := DqAll.reads S I h2 r2
      exact ⟨_, ReadsAll.cons q1 q2, fun m => (List.mem_append.mp m).elim n1 n2⟩
end
end
/-! ### data with small dicts -/
def dicPy : List (D × D) → Option PyData
  | [] => some (.dict [])
  | [(.str x, .int i)] => some (.dict [(.str x, .int i)])
  | _ => none
def ditPy : List (D × D) → Option PyData
  | [(.tup [.int m, .int n], .int i)] => some (.dict [(.tuple [.int m, .int n], .int i)])
  | [(.tup [.str m, .str n], .int i)] => some (.dict [(.tuple [.str m, .str n], .int i)])
  | _ => none
mutual
def toPyK : D → Option PyData
  | .non => some .none
  | .bl b => some (.bool b)
  | .int i => some (.int i)
  | .str x => some (.str x)
  | .tup ds => (toPysK ds).map .tuple
  | .ktup ds => (toPysK ds).map .tuple
  | .lst ds => (toPysK ds).map .list
  | .dic ps => dicPy ps
  | .dit ps => ditPy ps
  | _ => none
def toPysK : List D → Option (List PyData)
  | [] => some []
  | d :: r => match toPyK d with
    | some p => (toPysK r).map (p :: ·)
    | none => none
end
theorem dicPy_dq {c : Ct} {da : DA} {G H : Hp} {a : Addr} {kvs : List (Key × V)} {ps : List (D × D)} {p : PyData} (e : dicPy ps = some p) (h : H a = some (.dK kvs)) (r : RepKV c da G kvs ps) : Dq c.K H (.ref a) p := by
  unfold dicPy at e
  split at e
  · cases e
    cases r
    exact .dic0 h
  · rename_i x i
    cases e
    generalize hd : (D.str x) = dx at r
    cases r with
    | cons r1 r2 =>
      cases r2
      cases r1
      rename_i k
      match k, hd with
      | .inr y, hd =>
        cases hd
        exact .dic1 h
  · cases e
theorem ditPy_dq {c : Ct} {da : DA} {G H : Hp} {a : Addr} {kvs : List (List Key × V)} {ps : List (D × D)} {p : PyData} (e : ditPy ps = some p) (h : H a = some (.dT kvs)) (r : RepKT c da G kvs ps) : Dq c.K H (.ref a) p := by
  unfold ditPy at e
  split at e
  · rename_i m n i
    cases e
    generalize hd : (D.tup [.int m, .int n]) = dx at r
    cases r with
    | cons r1 r2 =>
      cases r2
      cases r1
      rename_i k
      match k, hd with
      | [.inl m2, .inl n2], hd =>
        simp [kD] at hd
        obtain ⟨rfl, rfl⟩ := hd
        exact .dit2 h
      | [], hd => simp at hd
      | [_], hd => simp at hd
      | [.inr _, _], hd => simp [kD] at hd
      | [.inl _, .inr _], hd => simp [kD] at hd
      | _ :: _ :: _ :: _, hd => simp at hd
  · rename_i m n i
    cases e
    generalize hd : (D.tup [.str m, .str n]) = dx at r
    cases r with
    | cons r1 r2 =>
      cases r2
      cases r1
      rename_i k
      match k, hd with
      | [.inr m2, .inr n2], hd =>
        simp [kD] at hd
        obtain ⟨rfl, rfl⟩ := hd
        exact .dit3 h
      | [], hd => simp at hd
      | [_], hd => simp at hd
      | [.inl _, _], hd => simp [kD] at hd
      | [.inr _, .inl _], hd => simp [kD] at hd
      | _ :: _ :: _ :: _, hd => simp at hd
  · cases e
section
variable {c : Ct} {da : DA} {G H : Hp}
mutual
theorem Rep.dq (x : Ex G H) : ∀ {v : V} {d : D} {p : PyData}, Rep c da G v d → toPyK d = some p → Dq c.K H v p
  | _, _, _, .non, e => by cases e; exact .plain .non
  | _, _, _, .bl b, e => by cases e; exact .plain (.bl b)
  | _, _, _, .int i, e => by cases e; exact .plain (.int i)
  | _, _, _, .str y, e => by cases e; exact .plain (.str y)
  | _, _, _, .ty n, e => by cases e
  | _, _, _, .draw h, e => by cases e
  | _, _, _, .obj h, e => by cases e
  | _, _, _, .tok h, e => by cases e
  | _, .tup ds, _, .tup s r, e => by
    simp only [toPyK] at e
    obtain ⟨ps, q, rfl⟩ := Option.map_eq_some_iff.mp e
    exact .tup (.inl (.inl (x _ _ s))) (RepAll.dq x r q)
  | _, .ktup ds, _, .ktup s r, e => by
    simp only [toPyK] at e
    obtain ⟨ps, q, rfl⟩ := Option.map_eq_some_iff.mp e
    exact .tup (x.st s) (RepAll.dq x r q)
  | _, .lst ds, _, .lst s r, e => by
    simp only [toPyK] at e
    obtain ⟨ps, q, rfl⟩ := Option.map_eq_some_iff.mp e
    exact .lst (.inl (.inl (x _ _ s))) (RepAll.dq x r q)
  | _, _, _, .scr s, e => by cases e
  | _, .dic ps, _, .dK s r, e => by
    simp only [toPyK] at e
    exact dicPy_dq e (x _ _ s) r
  | _, .dit ps, _, .dT s r, e => by
    simp only [toPyK] at e
    exact ditPy_dq e (x _ _ s) r
  | _, _, _, .fdT s r, e => by cases e
  | _, _, _, .exc s s2 m r, e => by cases e
  | _, _, _, .exo s m, e => by cases e
  | _, _, _, .exn s m, e => by cases e
  | _, _, _, .ins s m r, e => by cases e
  | _, .lam i ds, _, .lam t s s2 k r, e => by
    simp only [toPyK] at e
    cases e
theorem RepAll.dq (x : Ex G H) : ∀ {vs : List V} {ds : List D} {ps : List PyData}, RepAll c da G vs ds → toPysK ds = some ps → DqAll c.K H vs ps
  | _, _, _, .nil, e => by
    simp only [toPysK] at e
    cases e
    exact .nil
  | _, d :: ds, _, .cons h r, e => by
    simp only [toPysK] at e
    cases q : toPyK d with
    | none =>
      rw [q] at e
      cases e
    | some p =>
      rw [q] at e
      obtain ⟨ps, q2, rfl⟩ := Option.map_eq_some_iff.mp e
      exact .cons (Rep.dq x h q) (RepAll.dq x r q2)
end
theorem RepP.dq {O : List Addr} {v : V} {d : D} {p : PyData} (h : RepP c da O H v d) (e : toPyK d = some p) : Dq c.K H v p := by
  rcases h with h | ⟨a, o, rfl, ha, ob⟩
  · exact h.dq vis_ex e
  · rcases ob with ⟨xs, ds, rfl, rfl, r⟩ | ⟨kvs, ps, rfl, rfl, r⟩ | ⟨kvs, ps, rfl, rfl, r⟩ | ⟨_, _, _, _, _, _, rfl, _⟩
    · simp only [toPyK] at e
      obtain ⟨ps, q, rfl⟩ := Option.map_eq_some_iff.mp e
      exact .lst (.inl (.inl ha)) (r.dq vis_ex q)
    · simp only [toPyK] at e
      exact dicPy_dq e ha r
    · simp only [toPyK] at e
      exact ditPy_dq e ha r
    · cases e
end
/-! ### repr -/
def shwDK (d : D) : Option RV := match toPyK d with
  | some p => if p.showable = true ∧ p.depth ≤ 60 ∧ p.shown.length ≤ 1000000 then some (.sh (.str p.shown)) else none
  | none => none
def reprQ : List D → Option RV
  | [.lst xs] => shwDK (.lst xs)
  | [.tup xs] => shwDK (.tup xs)
  | [.dic ps] => shwDK (.dic ps)
  | [.dit ps] => shwDK (.dit ps)
  | _ => none
section
variable {X : Cx} {k : Nat}
theorem cr_reprDq (hS : SmB X.base) (hr : Room k X.A) (hG : X.A.guards = some []) : CallR X (.builtin "repr") (fun xs H Q => ∃ a py, xs = [.ref a] ∧ Dq X.K H (.ref a) py ∧ (py.showable = true ∧ py.depth ≤ 60 ∧ py.shown.length ≤ 1000000) ∧ Q (.str py.shown) H) := by
  intro pins s σ H xs us Q I r h
  obtain ⟨a, py, rfl, dp, hc, q⟩ := h
  obtain ⟨as, rd, ns⟩ := Dq.reads hS I dp (show RelV (.ref a) (.ref a) from rfl)
  rw [Vals.ref1 r]
  have hun := hr.units
  exact repr_of_reads' rd hc.1 (fun _ => ns) hG (by omega) (fun _ _ e => e) (fun h' u tk hk => ⟨.str _, H, I.kept (t' := tk) hk, ⟨u, rfl⟩, q⟩) (small_fits hc.2.2)
theorem bD_reprQ (hS : SmB X.base) (hr : Room k X.A) (hG : X.A.guards = some []) : CallR X (.builtin "repr") (rPure (ct X) reprQ) := by
  intro pins s σ H xs us Q I r h
  obtain ⟨da, O, ds, rv, hO, p, eg, q⟩ := h
  have core : ∀ d, shwDK d = some rv → (∀ v, RepP (ct X) da O H v d → ∃ a, v = .ref a) → ds = [d] → wpAny (model X.prog X.w) X.A (call (.builtin "repr") us) (EP X pins σ Q) X.xe s := fun d e0 hv ed => by
    subst ed
    obtain ⟨v, rfl, P⟩ := p.one
    obtain ⟨a, rfl⟩ := hv v P
    unfold shwDK at e0
    split at e0
    · rename_i py e
      split at e0
      · rename_i hc
        cases e0
        exact cr_reprDq hS hr hG pins s σ H _ us Q I r ⟨a, py, rfl, P.dq e, hc, q _ _ (Ex.refl _) (.str _)⟩
      · cases e0
    · cases e0
  unfold reprQ at eg
  split at eg
  · exact core _ eg (fun v P => let ⟨a, _, e, _⟩ := P.lst; ⟨a, e⟩) rfl
  · exact core _ eg (fun v P => let ⟨a, _, e, _⟩ := P.tup; ⟨a, e⟩) rfl
  · exact core _ eg (fun v P => let ⟨a, _, e, _⟩ := P.dic; ⟨a, e⟩) rfl
  · exact core _ eg (fun v P => let ⟨a, _, e, _⟩ := P.dit; ⟨a, e⟩) rfl
  · cases eg
theorem bD_reprW (hS : SmB X.base) (hr : Room k X.A) (hG : X.A.guards = some []) : CallR X (.builtin "repr") (rPure (ct X) (orN reprS reprQ)) := bD_or bD_reprS (bD_reprQ hS hr hG)
variable {es : List Expr} {p p2 pos : Pos} {fa : M (List RV)}
end
end FD

end sec_SM
section sec_FD47
set_option maxRecDepth 100000
set_option maxHeartbeats 400000
/-! FD47: str(number). -/
namespace FD
open PySem L2
variable [Tabl]
end FD

end sec_FD47
section sec_FD48
set_option maxRecDepth 100000
set_option maxHeartbeats 400000
/-! FD48: {key: value} with one key that is a tuple. -/
namespace FD
open PySem L2
variable [Tabl]
def tDispT (tk tv : TE) : TE := fun σ H Q => ∀ p, H p = none → tPairs [(tk, tv)] σ (upd H p (.dT [])) fun ps H2 =>
  ∃ (a : Addr) (k : List Key) (y : V), ps = [(.ref a, y)] ∧ H2 a = some (.tup (k.map kV)) ∧ H2 p = some (.dT []) ∧ Q (.ref p) (upd H2 p (.dT [(k, y)]))
theorem pe_dispT {X : Cx} {pos : Pos} {ke ve : Expr} {tk tv : TE} {j : Nat} (hr : Room j X.A) (hk : PE X ke tk) (hv : PE X ve tv) : PE X (.Dict [some ke] [ve] pos) (tDispT tk tv) := ⟨fun pins s σ H Q I q => by
  have new := I.hok.fresh (Nat.le_refl s.heap.objs.size)
  have I1 := I.laid (a := s.heap.objs.size) (o := .dT []) (h' := s.heap.push { cls := .type "dict", data := .dict #[] }) (t' := s.toks) (fun _ _ z => Heap.get?_push_of_some _ z) (Nat.le_refl _) (dt_empty s.heap I.big)
  have hun := hr.units
  have sat := q _ new
  have run := (pps_cons (pos := pos) hk hv pps_nil).run pins _ σ _ _ I1 sat
  rw [arm_eval_Dict, zip_pairTrees [some ke] [ve] X.env pos rfl rfl, dictDisplay_pairs _ (by simp [pairTrees]) (by simp [pairTrees])]
  refine wpAny_bind (wpAny_standAt (wpAny_bind (wpAny_subDictH (knd := tupleKind (mixKind X.prog X.w)) (show X.A.units < cLine by omega) (by simp [pairTrees]) (thn run fun ws s2 ⟨ps, H2, I2, rel, a, k, y, ep, ea, ed, q2⟩ => ?_))))
  subst ep
  have form : ∃ u : Value, ws = [(.ref a, u)] ∧ RelV y u := by
    cases rel with
    | cons r1 r0 =>
      cases r0
      rename_i b _
      obtain ⟨b1, b2⟩ := b
      obtain ⟨rk, ry⟩ := r1
      cases (show b1 = .ref a from rk)
      exact ⟨b2, rfl, ry⟩
  clear run
  obtain ⟨u, rfl, ry⟩ := form
  · skip
    obtain ⟨_, low, xs, kt, dd⟩ := dt_of I2.hok ed
    cases kt
    refine ⟨[(k, a, u)], ⟨rfl, rfl, key_of I2.hok ea, trivial⟩, dd, fun h' tok dd' same => wpAny_pure ⟨.ref s.heap.objs.size, upd H2 s.heap.objs.size (.dT [(k, y)]), ?_, rfl, q2⟩⟩
    have apart : a ≠ s.heap.objs.size := fun z => by
      rw [z, ed] at ea
      cases ea
    obtain ⟨o, es, ep, h1, h2, h3, h4, h5, h6⟩ := dd'
    refine d_write I2 (by rw [ed]; exact True.intro) same ⟨o, h1⟩ ⟨by rw [sizeLine_eq]; simp, low, [(k, a, u)], .cons ⟨rfl, ?_, ry⟩ .nil, o, es, ep, h1, h2, h3, h4, h6⟩
    rw [upd_ne apart]
    exact ea⟩
end FD

end sec_FD48
section sec_XD1
set_option maxRecDepth 100000
set_option maxHeartbeats 5000000
/-! XD1: runs that end by raising: statements and expressions. -/
namespace FD
open PySem L2
variable [Tabl]
/-- an exception as data -/
structure Xn where
  cn : Str
  gs : List (Str × D)
/-- how an exception stands in the heap -/
def XO (c : Ct) (da : DA) (O : List Addr) (H : Hp) (x : Xn) (cls : Value) (d : Option Addr) : Prop :=
  ∃ (C : Addr), cls = .ref C ∧ c.mg x.cn = some (.ref C) ∧ ((∃ (dx : Addr) (fs : List (Str × V)), d = some dx ∧ vis O H dx = some (.xd fs) ∧ RepF c da (vis O H) fs x.gs) ∨ (d = none ∧ x.gs = []))
theorem XO.mono {c : Ct} {da : DA} {O O' : List Addr} {H H' : Hp} {x : Xn} {cls : Value} {d : Option Addr} (e : Ex (vis O H) (vis O' H')) (h : XO c da O H x cls d) : XO c da O' H' x cls d := by
  obtain ⟨C, h1, h3, h⟩ := h
  refine ⟨C, h1, h3, ?_⟩
  rcases h with ⟨dx, fs, h2, h4, h5⟩ | h
  · exact .inl ⟨dx, fs, h2, e _ _ h4, h5.mono e⟩
  · exact .inr h
/-- a run that raises: for an expression the slots stay -/
def tXE (c : Ct) (F : Fm) (g : M Xn) (W : WX) : TE := fun σ H _ => ∃ O ρ w x ρ' w', SR c F O ρ w σ H ∧ g ρ w = some (x, ρ', w') ∧
  ∀ O' H' cls d, SR c F O' ρ' w' σ H' → Ex (vis O H) (vis O' H') → XO c F.dr.da O' H' x cls d → W cls d σ H'
def tXS (c : Ct) (F : Fm) (g : M Xn) (W : WX) : TS := fun _ σ H => ∃ O ρ w x ρ' w', SR c F O ρ w σ H ∧ g ρ w = some (x, ρ', w') ∧
  ∀ σ' O' H' cls d, SR c F O' ρ' w' σ' H' → Ex (vis O H) (vis O' H') → XO c F.dr.da O' H' x cls d → W cls d σ' H'
/-- a context that takes the wish W -/
structure XC (X : Cx) (W : WX) : Prop where
  tk : Takes X W
  po : PassesOwn (model X.prog X.w) X.A X.env X.xe
def FXE (X : Cx) (e : Expr) (g : M Xn) : Prop := ∀ W, XC X W → ∀ F, PE X e (tXE (ct X) F g W)
def FX1 (X : Cx) (st : Stmt) (g : M Xn) : Prop := ∀ W, XC X W → ∀ F, PS X st (tXS (ct X) F g W)
def FX (X : Cx) (sts : List Stmt) (g : M Xn) : Prop := ∀ W, XC X W → ∀ F, PSs X sts (tXS (ct X) F g W)
theorem tXS.toE {c : Ct} {F : Fm} {g : M Xn} {W : WX} {D : Ends} {σ : L2.St} {H : Hp} {Q : VK} (h : tXS c F g W D σ H) : tXE c F g W σ H Q := by
  obtain ⟨O, ρ, w, x, ρ', w', S, e, k⟩ := h
  exact ⟨O, ρ, w, x, ρ', w', S, e, fun O' H' cls d => k σ O' H' cls d⟩
section
variable {X : Cx} {e : Expr} {st : Stmt} {rest sts : List Stmt} {g g' : M Xn} {f : M Fl} {pos pos' : Pos} {i : Nat} {x : Str}
theorem PS.lift {t : TS} (h : PS X.nox st t) : PS X st t := ⟨fun pins s σ H D I q => wpAny_mono (h.run pins s σ H D (I.wish _) q) (fun _ _ z => z.unwish) fun _ _ z => z.elim⟩
theorem pss_no : PSs X sts (fun _ _ _ => False) := ⟨fun _ _ _ _ _ _ h => h.elim⟩
theorem fx_alt (h1 : FX X sts g) (h2 : FX X sts g') : FX X sts (alt g g') := fun W xc F => ⟨fun pins s σ H D I q => by
  obtain ⟨O, ρ, w, x, ρ', w', S, e, k⟩ := q
  unfold alt at e
  split at e
  · rename_i z ez
    cases e
    exact (h1 W xc F).run pins s σ H D I ⟨O, ρ, w, x, ρ', w', S, ez, k⟩
  · exact (h2 W xc F).run pins s σ H D I ⟨O, ρ, w, x, ρ', w', S, e, k⟩⟩
theorem fx_here (h : FX1 X st g) : FX X (st :: rest) g := fun W xc F => PSs.wk (pss_cons (h W xc F) (pss_no (X := X))) fun D σ H q => q
/-- first a statement that runs through -/
def seqX (f : M Fl) (g : M Xn) : M Xn := bindM f fun fl => match fl with
  | .nx => g
  | _ => failM
theorem fx_later (h : FS X.nox st f) (hr : FX X rest g) : FX X (st :: rest) (seqX f g) := fun W xc F => PSs.wk (pss_cons (PS.lift (h F)) (hr W xc F)) fun D σ H q => by
  obtain ⟨O, ρ, w, x, ρ', w', S, e, k⟩ := q
  obtain ⟨fl, ρ1, w1, e1, e2⟩ := bindM_some e
  refine ⟨O, ρ, w, fl, ρ1, w1, S, e1, ?_⟩
  cases fl with
  | nx => exact fun σ1 O1 H1 S1 x1 => ⟨O1, ρ1, w1, x, ρ', w', S1, e2, fun σ' O' H' cls d S' x' => k σ' O' H' cls d S' (x1.trans x')⟩
  | ct => cases e2
  | bk => cases e2
  | ret r => cases e2
theorem fx1_expr (he : FXE X e g) (hs : swapsWith e none pos.line X.env = pure false := by rfl) : FX1 X (.Expr e pos) g := fun W xc F => PS.wk (ps_expr (he W xc F) hs) fun D σ H q => q.toE
theorem fx1_set (hN : X.N.Nodup) (hi : X.N[i]? = some x) (hx : Loc X.env.scope x) (he : FXE X e g) (hs : swapsWith e (some (.Name x pos')) pos.line X.env = pure false := by rfl) (hf : X.fn x = true ∨ X.env.scope.names.lookup x = some .local := by first | exact .inl rfl | exact .inr rfl | assumption) :
    FX1 X (.Assign [.Name x pos'] e pos) g := fun W xc F => PS.wk (ps_set hN hi hx (he W xc F) hs hf) fun D σ H q => q.toE
def ifX (ft : M Bool) (g g' : M Xn) : M Xn := bindM ft fun b => if b then g else g'
theorem fx1_if {t : Expr} {a b : List Stmt} {ft : M Bool} (ht : FT X t ft) (ha : FX X a g) (hb : FX X b g') : FX1 X (.If t a b pos) (ifX ft g g') := fun W xc F => PS.wk (ps_if (ht F) (ha W xc F) (hb W xc F)) fun D σ H q => by
  obtain ⟨O, ρ, w, x, ρ', w', S, e, k⟩ := q
  refine tT_then S e fun b O1 ρ1 w1 H1 S1 e1 h1 => ?_
  have k' : ∀ σ' O' H' cls d, SR (ct X) F O' ρ' w' σ' H' → Ex (vis O1 H1) (vis O' H') → XO (ct X) F.dr.da O' H' x cls d → W cls d σ' H' := fun σ' O' H' cls d S' x' => k σ' O' H' cls d S' (e1.trans x')
  cases b with
  | true => exact ⟨O1, ρ1, w1, x, ρ', w', S1, h1, k'⟩
  | false => exact ⟨O1, ρ1, w1, x, ρ', w', S1, h1, k'⟩
theorem fx_none : FX X sts failM := fun W xc F => ⟨fun pins s σ H D I q => by
  obtain ⟨O, ρ, w, x, ρ', w', S, e, k⟩ := q
  cases e⟩
end
end FD

end sec_XD1
section sec_XD2
set_option maxRecDepth 100000
set_option maxHeartbeats 5000000
/-! XD2: defs, calls and raise statements of runs that raise. -/
namespace FD
open PySem L2
variable [Tabl]
open PyProof.Rows (envOfC)
/-- a def's promise where it raises -/
def spX (c : Ct) (n : Nat) (den : List D → W → Option (Xn × W)) : Sp := fun vs H _ E => ∃ dr O0 w ds x w', (∀ a ∈ dr.as, a ∈ O0) ∧ (∀ a ∈ O0, ∃ o, H a = some o ∧ NT o) ∧ DS c dr w O0 H ∧ RepAll c dr.da (vis O0 H) vs ds ∧ ds.length = n ∧ den ds w = some (x, w') ∧
  ∀ H' cls d, Kp dr H H' → DS c dr w' O0 H' → XO c dr.da O0 H' x cls d → E cls d H'
def denX (n : Nat) (g : M Xn) : List D → W → Option (Xn × W) := fun ds w => (g (startE n ds) w).map fun z => (z.1, z.2.2)
theorem denX_some {n : Nat} {g : M Xn} {ds : List D} {w w' : W} {x : Xn} (h : denX n g ds w = some (x, w')) : ∃ ρ', g (startE n ds) w = some (x, ρ', w') := by
  unfold denX at h
  cases e : g (startE n ds) w with
  | none =>
    rw [e] at h
    cases h
  | some z =>
    obtain ⟨y, ρ', u⟩ := z
    rw [e] at h
    cases h
    exact ⟨ρ', rfl⟩
section
variable {P : Program} {w : World} {K : PySem.W.Frag} {mg : Str → Option Value} {base : Heap}
theorem xdef_ok {x qual : Str} {st : Stmt} {f : Addr} {fd : FuncData} {N ps : List Str} {k : Nat} {g : M Xn} (F : Fun K x qual st f fd) (S : FnScope N ps (defScope st))
    (hb : ∀ (cdv : Value) (A : Around) (outer : List PySem.Env) (s : Shared) (H : Hp) (E : XK), Room k (A.deeper (envOfC qual (defScope st) s.heap.objs.size f cdv)) → FX (cxOf (L2.CX P w) P w K mg base N qual (defScope st) f cdv A outer s H E) (defBody st) g) :
    FnOk P w K mg base (L2.CX P w) (k + 1) f fd ps (spX ⟨K, mg⟩ ps.length (denX N.length g)) := by
  obtain ⟨oc, od, kV, doc, pm, an, cdv, ctt, osl, rfl, lk, hcd⟩ := F.ex
  refine fn_of lk hcd S (fun vs H Q E h => ?_) fun A outer s H vs Q E hr h => ?_
  · obtain ⟨dr, O0, wd, ds, y, w', _, _, _, h4, h5, _⟩ := h
    rw [h4.length, h5]
  · obtain ⟨dr, O0, wd, ds, y, w', h1, h2, h3, h4, h5, h6, k6⟩ := h
    obtain ⟨ρ', e⟩ := denX_some h6
    refine ⟨_, hb cdv A outer s H E hr (fun cls d _ H' => E cls d H') ⟨takes_of rfl rfl rfl rfl, passes_of rfl⟩ ⟨dr, O0, H⟩, ?_⟩
    exact ⟨O0, _, wd, y, ρ', w', start_sr h1 h2 h3 h4, e, fun σ' O' H' cls d S' x' xo => k6 H' cls d S'.base (S'.draw.to (Ex.refl _) (vis_sub S'.sub)) (xo.mono (vis_sub S'.sub))⟩
end
/-! ### calls -/
section
variable {X : Cx} {W : WX} {k j : Nat} {f C : Addr} {fd : FuncData} {ps : List Str} {sp : Sp} {dvs : List V} {ds : List Value}
/-- a call whose exceptions the wish takes -/
theorem run_call {pins : List (Addr × PySem.Obj)} {σ : L2.St} {H : Hp} {s : Shared} {Q : VK} {us : List Value} {vs : List V} (F : FnOk X.prog X.w X.K X.mg X.base (L2.CX X.prog X.w) k f fd ps sp) (hr : Room k X.A) (hb : Binds X.K fd ps ds) (hd : Vals dvs ds) (tk : Takes X W)
    (I : Inv X pins σ H s) (r : Vals vs us) (h : sp (vs ++ dvs) H Q (WE W σ)) : wpAny (model X.prog X.w) X.A (call (.ref f) us) (EP X pins σ Q) X.xe s := by
  have ra := r.append hd
  have ln : (us ++ ds).length = ps.length := ra.length ▸ F.len _ _ _ _ h
  have go := F.run X.A X.stack s H ⟨us, []⟩ (us ++ ds) (vs ++ dvs) Q (WE W σ) hr I.env0 (hb s us I.kIn ln) ra h
  refine wpAny_call (codeAny_mono go fun res s' hq => ?_)
  match res, hq with
  | .ok (.ret u), hq => exact I.after hq
  | .error z, hq => exact tk z s' (XE.of_call I (fun _ _ _ y => y) hq)
theorem run_new1 {pins : List (Addr × PySem.Obj)} {σ : L2.St} {H : Hp} {s : Shared} {Q : VK} {us : List Value} {vs : List V} (M : Mk X.K C f) (F : FnOk X.prog X.w X.K X.mg X.base (L2.CX X.prog X.w) k f fd ps sp) (hr : Room (k + 1) X.A) (hb : Binds X.K fd ps ds) (hd : Vals dvs ds) (tk : Takes X W)
    (I : Inv X pins σ H s) (r : Vals vs us) (h : ∀ y dx, H y = none → H dx = none → dx ≠ y → sp (.ref y :: (vs ++ dvs)) (upd (upd H dx (.own y)) y (.ins C dx [])) (fun v H2 => v = .non ∧ Q (.ref y) H2) (WE W σ)) :
    wpAny (model X.prog X.w) X.A (call (.ref C) us) (EP X pins σ Q) X.xe s := by
  have J := Inv.made (C := C) I
  have sp0 := h (s.heap.objs.size + 1) s.heap.objs.size (I.hok.fresh (Nat.le_succ _)) (I.hok.fresh (Nat.le_refl _)) (Nat.ne_of_lt (Nat.lt_succ_self _))
  have ra : Vals (V.ref (s.heap.objs.size + 1) :: (vs ++ dvs)) ((Value.ref (s.heap.objs.size + 1) :: us) ++ ds) := .cons rfl (r.append hd)
  have ln : ((Value.ref (s.heap.objs.size + 1) :: us) ++ ds).length = ps.length := ra.length ▸ F.len _ _ _ _ sp0
  have go := F.run _ X.stack _ _ ⟨Value.ref (s.heap.objs.size + 1) :: us, []⟩ _ _ _ _ (hr.make C us []) (J.env0.make C us []) (hb _ _ J.kIn ln) ra sp0
  refine wpAny_call (make_map I.kIn M.makes M.init (beq_iff_eq.mp M.fn) (codeAny_mono go fun res s' hq => ?_))
  match res, hq with
  | .ok (.ret u), hq =>
    obtain ⟨v, H', I3, rv, ev, q3⟩ := J.after hq
    cases ev
    exact ⟨rv, V.ref (s.heap.objs.size + 1), H', I3, rfl, q3⟩
  | .error z, hq => exact tk z s' (XE.of_call J (fun _ _ _ y => y) hq)
end
/-- a def that may raise -/
structure XalD (P : Program) (w : World) (K : PySem.W.Frag) (mg : Str → Option Value) (base : Heap) (k : Nat) (x : Str) (n : Nat) (dd : List D) (den : List D → W → Option (Xn × W)) : Prop where
  ex : ∃ (f : Addr) (fd : FuncData) (ps : List Str) (ds : List Value) (dvs : List V), FnOk P w K mg base (L2.CX P w) k f fd ps (spX ⟨K, mg⟩ n den) ∧ mg x = some (.ref f) ∧ PySem.W.keepIn K (.ref f) = true ∧ Binds K fd ps ds ∧ Vals dvs ds ∧ ∀ da G, RepAll ⟨K, mg⟩ da G dvs dd
structure XetD (P : Program) (w : World) (K : PySem.W.Frag) (mg : Str → Option Value) (base : Heap) (k : Nat) (cn m : Str) (n : Nat) (dd : List D) (den : List D → W → Option (Xn × W)) : Prop where
  ex : ∃ (C f : Addr) (fd : FuncData) (ps : List Str) (ds : List Value) (dvs : List V), mg cn = some (.ref C) ∧ Cls K C ∧ Meth K C m f ∧ FnOk P w K mg base (L2.CX P w) k f fd ps (spX ⟨K, mg⟩ n den) ∧ Binds K fd ps ds ∧ Vals dvs ds ∧ ∀ da G, RepAll ⟨K, mg⟩ da G dvs dd
def runX (den : List D → W → Option (Xn × W)) (ds : List D) : M Xn := fun ρ w => (den ds w).map fun z => (z.1, ρ, z.2)
theorem runX_some {den : List D → W → Option (Xn × W)} {ds : List D} {ρ ρ' : Env} {w w' : W} {x : Xn} (h : runX den ds ρ w = some (x, ρ', w')) : den ds w = some (x, w') ∧ ρ' = ρ := by
  unfold runX at h
  cases e : den ds w with
  | none =>
    rw [e] at h
    cases h
  | some z =>
    rw [e] at h
    cases h
    exact ⟨rfl, rfl⟩
def callX (den : List D → W → Option (Xn × W)) (dd : List D) (fa : M (List RV)) : M Xn := bindM fa fun rs => bindM (escAll rs) fun ds => runX den (ds ++ dd)
def methX (cn m : Str) (den : List D → W → Option (Xn × W)) (dd : List D) (fo : M RV) (fa : M (List RV)) : M Xn :=
  bindM fo fun r => bindM (selfR cn m r) fun d => bindM fa fun rs => bindM (escAll rs) fun ds => runX den (d :: (ds ++ dd))
theorem spX_of {c : Ct} {F : Fm} {O : List Addr} {ρ : Env} {w w' : W} {σ : L2.St} {H : Hp} {vs : List V} {ds : List D} {x : Xn} {Q : VK} {E : XK} {n : Nat} {den : List D → W → Option (Xn × W)} (S : SR c F O ρ w σ H) (hr : RepAll c F.dr.da (vis O H) vs ds) (hn : ds.length = n) (hd : den ds w = some (x, w'))
    (q : ∀ H' cls d, SR c F O ρ w' σ H' → Ex (vis O H) (vis O H') → XO c F.dr.da O H' x cls d → E cls d H') : spX c n den vs H Q E :=
  ⟨F.dr, O, w, ds, x, w', S.drO, S.trk, S.draw, hr, hn, hd, fun H' cls d kp hw xo => q H' cls d (S.kept kp hw) (vis_kp S.drO kp) xo⟩
section
variable {X : Cx} {e o : Expr} {es : List Expr} {pos p apos : Pos} {x m cn : Str} {k j n : Nat} {dd : List D} {den : List D → W → Option (Xn × W)} {fa : M (List RV)} {fo : M RV}
theorem fxe_call (cl : XalD X.prog X.w X.K X.mg X.base k x n dd den) (hr : Room j X.A) (hg : Gl X x) (ha : FA X (e :: es) fa) (hk : k ≤ j := by decide) (hn : (e :: es).length + dd.length = n := by rfl)
    (hdb : NotDebug x := by decide) (he : Plain1 X e es := by rfl) (hpl : PlainR X es pos := by rfl) : FXE X (.Call (.Name x p) (e :: es) [] pos) (callX den dd fa) := fun W xc F => by
  obtain ⟨f, fd, ps, ds, dvs, FO, hm, kp, b, d, rd⟩ := cl.ex
  refine ⟨fun pins s σ H Q I q => ?_⟩
  obtain ⟨O, ρ, w, y, ρ', w', S, ey, kk⟩ := q
  have ta : tA (ct X) F fa σ H fun vs H1 => spX (ct X) n den (vs ++ dvs) H1 Q (WE W σ) := by
    refine tA_then S ey fun vs O1 ρ1 w1 H1 rs S1 e1 R1 f1 h1 => ?_
    obtain ⟨ds1, ρ2, w2, h2, h3⟩ := bindM_some h1
    obtain ⟨rfl, O2, S2, k2, r2⟩ := escAll_ok S1 R1 h2
    obtain ⟨h4, rfl⟩ := runX_some h3
    refine spX_of S2 (r2.append (rd _ _)) ?_ h4 fun H' cls d S' x' xo => kk O2 H' cls d S' ((e1.trans k2).trans x') xo
    rw [List.length_append, r2.len2, ← R1.length, ha.len _ _ _ _ _ f1]
    exact hn
  refine wpAny_Call_Name_kw (ld_glob I hg hm ?_ hdb)
  exact PySem.W.callWith_K (h₀ := X.base) I.ok.mod.kin kp (thn ((ha.run F).run pos pins s σ H _ I ta) fun us s1 ⟨vs, H1, I1, r, q1⟩ => ⟨I1.kIn, run_call FO (hr.mono hk) b d xc.tk I1 r q1⟩) he hpl
end
end FD

end sec_XD2
section sec_XD3
set_option maxRecDepth 100000
set_option maxHeartbeats 5000000
/-! XD3: raise, exceptions' __init__, for loops that raise. -/
namespace FD
open PySem L2
variable [Tabl]
open PyProof.Rows (envOfC)
/-- __init__ of an exception with one field -/
def spXI (C : Addr) (f : Str) : Sp := fun vs H Q _ => ∃ (a : Addr) (v : V), vs = [.ref a, v] ∧ H a = some (exo a C none) ∧ ∀ dx, H dx = none → dx ≠ a → Q .non (upd (upd H dx (exd dx [(f, v)])) a (exo a C (some dx)))
section
variable {P : Program} {w : World} {K : PySem.W.Frag} {mg : Str → Option Value} {base : Heap}
theorem xinit_ok {qual : Str} {st : Stmt} {fI C : Addr} {fd : FuncData} {y fl : Str} {p1 p2 p3 p4 : Pos} (F : Fun K "__init__" qual st fI fd) (S : FnScope ["self", y] ["self", y] (defScope st)) (T : OexC K C) (hno : PySem.W.findIn K (.ref C) fl = some none)
    (hbd : defBody st = [.Assign [.Attribute (.Name "self" p1) fl p2] (.Name y p3) p4]) (v0 : Vis (defScope st) "self") (v1 : Vis (defScope st) y) (hyd : NotDebug y := by decide) (hyc : (y == ("__classdict__" : Str)) = false := by decide) :
    FnOk P w K mg base CX0 1 fI fd ["self", y] (spXI C fl) := by
  obtain ⟨oc, od, kV, doc, pm, an, cdv, ctt, osl, rfl, lk, hcd⟩ := F.ex
  refine fn_of (k := 0) lk hcd S (fun vs H Q E h => ?_) fun A outer s H vs Q E hr h => ?_
  · obtain ⟨a, v, rfl, _⟩ := h
    rfl
  · obtain ⟨a, v, rfl, ha, q⟩ := h
    rw [hbd]
    refine ⟨_, pss_one (ps_ost (pe_var (i := 0) rfl v0) (pe_var (i := 1) rfl v1 hyd hyc)), ?_⟩
    exact ⟨v, rfl, .ref a, rfl, a, C, rfl, T, hno, .inl ⟨ha, fun dx n ne => q dx n ne⟩⟩
end
/-- an own exception class: its one field, its __init__ -/
structure XcD (P : Program) (w : World) (K : PySem.W.Frag) (mg : Str → Option Value) (base : Heap) (cn f : Str) : Prop where
  ex : ∃ (C fI : Addr) (fd : FuncData) (ps : List Str), mg cn = some (.ref C) ∧ OexC K C ∧ PySem.W.findIn K (.ref C) "__init__" = some (some (.ref fI)) ∧ PySem.W.typeIn K (.ref fI) = some (.type "function") ∧ FnOk P w K mg base CX0 1 fI fd ps (spXI C f) ∧ Binds K fd ps []
def raiseX (cn f : Str) (fa : M (List RV)) : M Xn := bindM fa fun rs => bindM (escAll rs) fun ds => match ds with
  | [d] => pureM ⟨cn, [(f, d)]⟩
  | _ => failM
section
variable {X : Cx} {e : Expr} {pos p pos' : Pos} {cn f : Str} {j : Nat} {fa : M (List RV)}
theorem fx1_raise (xd : XcD X.prog X.w X.K X.mg X.base cn f) (hc : X.calm = true) (hr : Room j X.A) (hg : Gl X cn) (ha : FA X [e] fa) (hj : 2 ≤ j := by decide) (hdb : NotDebug cn := by decide) (he : Plain1 X e [] := by rfl) (hpl : PlainR X [] pos := by rfl) :
    FX1 X (.Raise (some (.Call (.Name cn p) [e] [] pos)) none pos') (raiseX cn f fa) := fun W xc F => by
  obtain ⟨C, fI, fd, ps, hm, T, iC, tI, FO, hb⟩ := xd.ex
  refine PS.wk (ps_raise hc xc.tk (pmk_oex (CX := CX0) T iC tI FO (hr.mono hj) hb .nil pass0 hg hm (ha.run F) hdb he hpl)) fun D σ H q => ?_
  obtain ⟨O, ρ, w, x, ρ', w', S, ey, kk⟩ := q
  refine tA_then S ey fun vs O1 ρ1 w1 H1 rs S1 e1 R1 f1 h1 => ?_
  obtain ⟨ds1, ρ2, w2, h2, h3⟩ := bindM_some h1
  obtain ⟨rfl, O2, S2, k2, r2⟩ := escAll_ok S1 R1 h2
  have hl : vs.length = 1 := by rw [← R1.length, ha.len _ _ _ _ _ f1]; rfl
  match vs, hl, ds1, r2, h3 with
  | [v], _, [d], .cons rv .nil, h3 =>
    cases h3
    refine ⟨by simp, fun a na => ⟨a, v, rfl, upd_same, fun dx ndx ne => ⟨rfl, dx, [(f, v)], upd_same, ?_, ?_, ?_⟩⟩⟩
    · rw [upd_ne ne, upd_same]
    · rw [upd_ne ne] at ndx
      exact ndx
    · rw [upd_ne ne] at ndx
      obtain ⟨H', eH⟩ : ∃ H', H' = upd (del (upd (upd (upd H1 a (exo a C none)) dx (exd dx [(f, v)])) a (exo a C (some dx))) a) dx (.xd [(f, v)]) := ⟨_, rfl⟩
      rw [← eH]
      have x3 : Ex H1 H' := fun b o hb => by
        rw [eH, upd_ne (ne_of_none hb ndx), del_ne (ne_of_none hb na), upd_ne (ne_of_none hb na), upd_ne (ne_of_none hb ndx), upd_ne (ne_of_none hb na)]
        exact hb
      have S3 := S2.grow x3
      have nO : dx ∉ O2 := fun z => by
        obtain ⟨o, q, _⟩ := S2.trk dx z
        rw [ndx] at q
        cases q
      refine kk σ O2 H' (.ref C) (some dx) S3 ((e1.trans k2).trans (vis_mono x3)) ⟨C, rfl, hm, .inl ⟨dx, [(f, v)], rfl, ?_, .cons (rv.mono (vis_mono x3)) .nil⟩⟩
      rw [vis_out nO, eH, upd_same]
end
/-! ### for -/
def forXL (asg : D → M Unit) (body : M Fl) (xb : M Xn) : List D → M Xn
  | [] => failM
  | d :: ds => bindM (asg d) fun _ => alt xb (bindM body fun fl => match fl with
    | .nx => forXL asg body xb ds
    | .ct => forXL asg body xb ds
    | _ => failM)
def forX (fi : M (List D)) (asg : D → M Unit) (body : M Fl) (xb : M Xn) : M Xn := bindM fi fun ds => forXL asg body xb ds
section
variable {X : Cx} {tg iter : Expr} {body : List Stmt} {pos : Pos} {fi : M (List D)} {js : List Nat} {g : D → M Unit} {fb : M Fl} {xb : M Xn}
theorem fx1_for (hc : X.calm = true) (hi : FI X tg iter fi) (hg : FG X tg js g) (hb : FSs X.nox body fb) (hx : FX X body xb) (hs : ∀ x, foldedSetIterable iter X.env x = pure x := by intro _; rfl) :
    FX1 X (.For tg iter body [] pos) (forX fi g fb xb) := fun W xc F => by
  have both : PSs X body (fun D σ H => tS (ct X) F fb D σ H ∨ tXS (ct X) F xb W D σ H) := ⟨fun pins s σ H D I q => by
    rcases q with q | q
    · exact (PSs.nox (hb F)).run pins s σ H D I q
    · exact (hx W xc F).run pins s σ H D I q⟩
  refine PS.wk (ps_for xc.po hc (hi F) (hg F) both hs) fun E σ H q => ?_
  obtain ⟨O, ρ, w, x, ρe, we, S, e, k⟩ := q
  obtain ⟨ds, ρ1, w1, e1, e2⟩ := bindM_some e
  refine ⟨O, ρ, w, ds, ρ1, w1, S, e1, fun J O1 H1 S1 x1 Wk => ?_⟩
  refine ⟨fun i m σ' H' => m = ds.length - i ∧ i ≤ ds.length ∧ ∃ O' ρ' w', SR (ct X) F O' ρ' w' σ' H' ∧ Ex (vis O1 H1) (vis O' H') ∧ forXL g fb xb (ds.drop i) ρ' w' = some (x, ρe, we), ⟨ds.length, by simp, Nat.zero_le _, O1, ρ1, w1, S1, Ex.refl _, by simpa using e2⟩, ?_⟩
  rintro i m σ' H' ⟨rfl, hle, O2, ρ2, w2, S2, x2, e3⟩
  obtain ⟨hgo, hstop⟩ := Wk i O2 H' x2 S2.trk S2.cel
  by_cases hlt : i < ds.length
  · obtain ⟨go, yld⟩ := hgo ds[i] (by simp [hlt])
    rw [List.drop_eq_getElem_cons hlt] at e3
    obtain ⟨_, ρ3, w3, e4, e5⟩ := bindM_some e3
    refine .inr ⟨go, fun σ5 H5 => ∃ O' ρ' w', SR (ct X) F O' ρ' w' σ5 H5 ∧ Ex (vis O1 H1) (vis O' H5) ∧ forXL g fb xb (ds.drop (i + 1)) ρ' w' = some (x, ρe, we), fun σ5 H5 n => ⟨ds.length - (i + 1), by omega, rfl, hlt, n⟩, fun y H3 hy => ?_⟩
    obtain ⟨x3, r3⟩ := yld y H3 hy
    refine ⟨O2, ρ2, w2, ds[i], ρ3, w3, S2.grow x3, r3, e4, fun σ6 O6 S6 x6 _ _ => ?_⟩
    have x7 : Ex (vis O1 H1) (vis O6 H3) := (x2.trans (vis_mono x3)).trans x6
    unfold alt at e5
    split at e5
    · rename_i z ez
      cases e5
      exact .inr ⟨O6, ρ3, w3, x, ρe, we, S6, ez, fun σ8 O8 H8 cls d S8 x8 xo => k σ8 O8 H8 cls d S8 ((x1.trans x7).trans x8) xo⟩
    · obtain ⟨f4, ρ4, w4, e6, e7⟩ := bindM_some e5
      refine .inl ⟨O6, ρ3, w3, f4, ρ4, w4, S6, e6, ?_⟩
      cases f4 with
      | nx => exact fun σ8 O8 H8 S8 x8 => ⟨O8, ρ4, w4, S8, x7.trans x8, e7⟩
      | ct => exact fun σ8 O8 H8 S8 x8 => ⟨O8, ρ4, w4, S8, x7.trans x8, e7⟩
      | bk => cases e7
      | ret r => cases e7
  · have ei : i = ds.length := by omega
    subst ei
    rw [List.drop_length] at e3
    cases e3
end
end FD

end sec_XD3
section sec_XD4
set_option maxRecDepth 100000
set_option maxHeartbeats 5000000
/-! XD4: exceptions that were caught and kept. -/
namespace FD
open PySem L2
variable [Tabl]
section
variable {X : Cx} {pins : List (Addr × PySem.Obj)} {σ : L2.St} {H : Hp} {s : Shared}
/-- what lies at a is an exception: tracked from here on -/
theorem inv_track {a C : Addr} {dx : Option Addr} {oe : PySem.Obj} {vs : Array Value} (I : Inv X pins σ H s) (ha : s.heap.get? a = some oe) (hc : oe.cls = .ref C) (hi : oe.dict = dx) (hd : oe.data = .fields vs) (na : H a = none) (nL : a ≠ X.env.locals)
    (h0 : X.s_0.heap.get? a = none) (np : ∀ p ∈ X.pn ++ pins, p.1 ≠ a) : Inv X pins σ (upd H a (EXQ a C dx)) s where
  ok := I.ok
  os := I.os
  bare := I.bare
  base :=
    { keep := I.base.keep
      slot := I.base.slot
      free := fun b o q n z => by
        have : b ≠ a := fun e => by rw [e, h0] at q; cases q
        rw [upd_ne this]
        exact I.base.free b o q n z
      there := I.base.there
      tups := fun b xs q => (upd_ne (ne_of_none (I.base.tups b xs q) na)).trans (I.base.tups b xs q)
      frzs := fun b o u q => (upd_ne (ne_of_none (I.base.frzs b o u q) na)).trans (I.base.frzs b o u q)
      tbls := fun b ps q => by
        obtain ⟨m, e⟩ := I.base.tbls b ps q
        exact ⟨m, (upd_ne (ne_of_none e na)).trans e⟩ }
  loc := I.loc
  cell := I.cell
  free := (upd_ne (Ne.symm nL)).trans I.free
  freeC := fun x c e => by
    obtain ⟨v, hv⟩ := I.cell x c e
    have : c ≠ a := fun z => by
      subst z
      obtain ⟨o, h1, h2⟩ := hv
      rw [ha] at h1
      cases h1
      rw [hd] at h2
      cases h2
    rw [upd_ne this]
    exact I.freeC x c e
  pin := fun p hp => by
    obtain ⟨q1, q2, q3⟩ := I.pin p hp
    exact ⟨q1, (upd_ne (np p hp)).trans q2, q3⟩
  hok := L2.HOk.laidN I.hok (fun _ _ q => q) na ⟨⟨oe, vs, ha, hc, hi, hd⟩, ⟨oe, ha⟩, fun h1 h2 ⟨oe', vs', k1, k2⟩ k => ⟨oe', vs', k _ k1, k2⟩⟩
  len := I.len
end
/-- the wish of 'except x as n: y = n' -/
def wKeep (K : PySem.W.Frag) (c : Value) (i j : Nat) (D : Ends) : WX := fun cls d σ H => PySem.W.exmOne K cls c = some true ∧ ∃ C, cls = .ref C ∧
  ∀ a, H a = none → D.nx (((σ.set i (some (.ref a))).set j (some (.ref a))).set i none) (upd H a (EXQ a C d))
section
variable {X : Cx} {x n y : Str} {c : Value} {i j : Nat} {body : List Stmt} {np p1 p2 p3 p4 pos : Pos} {tb : WX → TS}
theorem ps_keep (hs : X.stack = X.env :: X.outer) (hf : X.env.frame = some X.env.locals) (hex : X.ex = []) (hN : X.N.Nodup) (hi : X.N[i]? = some n) (hln : X.env.kindOf n = some .local) (hnd : NotDebug n) (hnc : (n == ("__classdict__" : Str)) = false) (hj : X.N[j]? = some y) (hy : Loc X.env.scope y) (hfy : X.fn y = true) (hc : Names X x c)
    (hb : ∀ (W : WX) (pn : List (Addr × PySem.Obj)) (xe : Value → Shared → Prop), Takes (X.tr pn xe) W → PassesOwn (model X.prog X.w) X.A X.env xe → PSs (X.tr pn xe) body (tb W)) :
    PS X (.Try body [.ExceptHandler (some (.Name x np)) (some n) [.Assign [.Name y p1] (.Name n p2) p3] p4] [] [] pos) (fun D σ H => tb (wKeep X.K c i j D) D σ H) := ⟨fun pins s σ H D I h => by
  have fr : X.A.frames = some (X.env :: X.outer) := hs ▸ I.ok.frames
  have ok := I.ok
  refine wpAny_Try_except (wpAny_mono ((hb _ (X.pn ++ pins) _ (fun u s1 air => ?_) PassesOwn.looking).run [] s σ H D (I.toTry _) h) (fun fl s1 out => ?_) fun _ _ z => z)
  · obtain ⟨a, B, sI, pins', σ', H', cls, d, rfl, J', nb, up, sky, na, os, ag, em, C, rfl, go⟩ := air
    have J := J'.ofTry ok
    rw [show (X.tr (X.pn ++ pins) _).stack = X.env :: X.outer from hs] at sky
    refine Sky.land Zc.steady fr hf sky fun h3 f3 up3 => ?_
    have J3 : Inv X pins σ' H' { s1 with heap := h3 } := J.landed nb f3.1 (up.trans up3) os ag
    obtain ⟨o3, v3, at3, z3, d3⟩ := f3.there
    have nfr : a ∉ frs (X.env :: X.outer) := fun m => by
      obtain ⟨_, o', e', no⟩ := f3.2.2.1.mem m
      rw [at3] at e'
      cases e'
      exact no _ d3
    have nI : sI.heap.get? a = none := by
      cases q : sI.heap.get? a with
      | none => rfl
      | some o =>
        have := nb a o q (hs ▸ nfr)
        rw [f3.2.1] at this
        cases this
    have nL : a ≠ X.env.locals := fun z => nfr (List.mem_filterMap.mpr ⟨X.env, by simp, z ▸ hf⟩)
    have nF : a ∉ X.fs := fun m => by
      obtain ⟨v, hv, q⟩ := List.mem_filterMap.mp m
      exact nfr (List.mem_filterMap.mpr ⟨v, List.mem_cons_of_mem _ hv, q⟩)
    have n0 : X.s_0.heap.get? a = none := by
      cases q : X.s_0.heap.get? a with
      | none => rfl
      | some o =>
        obtain ⟨o', e'⟩ := J.base.there a o q (by rw [hex]; simp)
        rw [nI] at e'
        cases e'
    have npn : ∀ p ∈ X.pn ++ pins, p.1 ≠ a := fun p hp z => by
      have := (J.pin p hp).1
      rw [z, nI] at this
      cases this
    have SU := J3.suite at3 d3 na nL nF
    have cl : ∀ {Q : Value → Shared → Prop} {E : Value → Shared → Prop}, Q c { s1 with heap := h3 } → wpAny (model X.prog X.w) (X.A.mark (some (.ref a))) (eval (.Name x np) X.env) Q E { s1 with heap := h3 } := fun q => by
      obtain ⟨g, db, m | ⟨m, b, nm⟩⟩ := hc
      · exact ld_glob (X := X.suite a ((a, o3) :: (X.pn ++ pins))) SU g m q db
      · exact ld_blt (X := X.suite a ((a, o3) :: (X.pn ++ pins))) SU g m b q nm db
    refine wpAny_handleBy_cons (codeAny_handlers_test (cl ?_)) (by intro z; cases z)
    have ty : PySem.W.Looks (model X.prog X.w) h3 (typeOf (.ref a)) (.ref C) := fun _ _ _ _ k q => wpAny_typeOf_ref (k _ _ at3) (z3.1 ▸ q)
    refine (PySem.W.exm_one J3.kIn ty em).here ?_
    refine codeAny_handlers_suite_as (HandSPX.lands_againZ f3 fun h4 f4 up4 => ?_)
    have J4 : Inv X pins σ' H' { s1 with heap := h4 } := J.landed nb f4.1 ((up.trans up3).trans up4) os ag
    obtain ⟨o4, v4, at4, z4, d4⟩ := f4.there
    have S4 := J4.suite at4 d4 na nL nF
    refine store_ok (X := X.suite a ((a, o4) :: (X.pn ++ pins))) (v := .ref a) S4 hN hi (.inl hln) rfl (fun s5 S5 => ?_) (.inr hln)
    have one := (pss_one (X := X.suite a ((a, o4) :: (X.pn ++ pins))) (ps_set (pos := p3) (pos' := p1) hN hj hy (pe_var (pos := p2) hi (.inl hln) hnd hnc) rfl (.inl hfy))).run [] s5 _ H' { nx := fun σ6 H6 => σ6 = (σ'.set i (some (.ref a))).set j (some (.ref a)) ∧ H6 = H', rt := fun _ _ => False } S5 ⟨.ref a, List.getElem?_set_self (by rw [J.len]; exact (List.getElem?_eq_some_iff.mp hi).1), rfl, rfl⟩
    refine wpAny_mono one (fun fl s6 out => ?_) fun _ _ z => z.elim
    match fl, out with
    | .next, ⟨σ6, H6, S6, e6, e6'⟩ =>
      subst e6 e6'
      refine gone_ok (X := X.suite a ((a, o4) :: (X.pn ++ pins))) S6 hN hi hln fun s7 S7 => ?_
      obtain ⟨at7, _⟩ := S7.pin (a, o4) (by simp)
      exact ⟨_, _, inv_track (S7.unsuite ok) at7 z4.1 z4.2 d4 na nL n0 npn, go a na⟩
    | .ret u, ⟨_, _, _, _, _, z⟩ => exact z.elim
    | .brk, ⟨_, _, _, z⟩ => exact z.elim
    | .cont, ⟨_, _, _, z⟩ => exact z.elim
  · match fl, out with
    | .next, ⟨σ', H', J, q⟩ => exact wpAny_execs_nil ⟨σ', H', J.ofTry ok, q⟩
    | .brk, ⟨σ', H', J, q⟩ => exact ⟨σ', H', J.ofTry ok, q⟩
    | .cont, ⟨σ', H', J, q⟩ => exact ⟨σ', H', J.ofTry ok, q⟩
    | .ret u, ⟨v, σ', H', J, r, q⟩ => exact ⟨v, σ', H', J.ofTry ok, r, q⟩⟩
end
end FD

end sec_XD4
section sec_XD5
set_option maxRecDepth 100000
set_option maxHeartbeats 5000000
/-! XD5: try .. except x as n: y = n; isinstance and fields of what was caught. -/
namespace FD
open PySem L2
variable [Tabl]
section
variable {c : Ct} {F : Fm} {O : List Addr} {ρ : Env} {w : W} {σ : L2.St} {H : Hp} {v : V} {da : DA}
theorem SR.void (S : SR c F O ρ w σ H) (i : Nat) (u : Option V) : SR c F O (ρ.set i none) w (σ.set i u) H where
  len := by rw [List.length_set, List.length_set]; exact S.len
  base := S.base
  new := S.new
  sub := S.sub
  drs := S.drs
  trk := S.trk
  draw := S.draw
  val := fun j d h => by
    rcases getElem?_set_some h with ⟨rfl, z⟩ | ⟨n, h⟩
    · cases z
    · obtain ⟨x, h1, h2⟩ := S.val j d h
      exact ⟨x, by rw [List.getElem?_set_ne n]; exact h1, h2⟩
  own := fun j d h => by
    rcases getElem?_set_some h with ⟨rfl, z⟩ | ⟨n, h⟩
    · cases z
    · obtain ⟨a, o, h1, h2⟩ := S.own j d h
      exact ⟨a, o, by rw [List.getElem?_set_ne n]; exact h1, h2⟩
  uni := fun j j' d d' a h h' q q' => by
    rcases getElem?_set_some h with ⟨rfl, z⟩ | ⟨n, h⟩
    · cases z
    · rcases getElem?_set_some h' with ⟨rfl, z⟩ | ⟨n', h'⟩
      · cases z
      · rw [List.getElem?_set_ne n] at q
        rw [List.getElem?_set_ne n'] at q'
        exact S.uni j j' d d' a h h' q q'
/-- an exception of the class at C: with a dict, or with none -/
def XAt (H : Hp) (a C : Addr) : Prop := (∃ dx fs, H a = some (EXO a C dx) ∧ H dx = some (.xd fs)) ∨ H a = some (ExO (.ref C) a) ∨ H a = some (EXQ a C none)
theorem RepP.exc {cn : Str} {gs : List (Str × D)} (h : RepP c da O H v (.exc cn gs)) : ∃ a C, v = .ref a ∧ c.mg cn = some (.ref C) ∧ XAt H a C ∧ (gs = [] ∨ ∃ dx fs, H a = some (EXO a C dx) ∧ H dx = some (.xd fs) ∧ RepF c da (vis O H) fs gs) := by
  rcases h with h | ⟨a, o, _, _, h⟩
  · cases h with
    | exc e1 e2 m r => exact ⟨_, _, rfl, m, .inl ⟨_, _, vis_ex _ _ e1, vis_ex _ _ e2⟩, .inr ⟨_, _, vis_ex _ _ e1, vis_ex _ _ e2, r⟩⟩
    | exo e m => exact ⟨_, _, rfl, m, .inr (.inl (vis_ex _ _ e)), .inl rfl⟩
    | exn e m => exact ⟨_, _, rfl, m, .inr (.inr (vis_ex _ _ e)), .inl rfl⟩
  · rcases h with ⟨_, _, _, e, _⟩ | ⟨_, _, _, e, _⟩ | ⟨_, _, _, e, _⟩ | ⟨_, _, _, _, _, _, e, _⟩ <;> cases e
end
/-! ### try -/
def tryM (ex : List Str) (i j : Nat) (fb : M Fl) (gb : M Xn) : M Fl := fun ρ w => match fb ρ w with
  | some z => some z
  | none => match gb ρ w with
    | some (x, ρ', w') => if ex.contains x.cn then some (.nx, (((ρ'.set i none).set j (some (.val (.exc x.cn x.gs)))).set i none), w') else none
    | none => none
/-- the classes that the clause takes -/
def XsD (K : PySem.W.Frag) (mg : Str → Option Value) (c : Value) (ex : List Str) : Prop := ∀ cn ∈ ex, ∃ C, mg cn = some (.ref C) ∧ PySem.W.exmOne K (.ref C) c = some true
section
variable {X : Cx} {x n y : Str} {c : Value} {i j : Nat} {body : List Stmt} {np p1 p2 p3 p4 pos : Pos} {ex : List Str} {fb : M Fl} {gb : M Xn}
theorem fs_tryK (hs : X.stack = X.env :: X.outer) (hf : X.env.frame = some X.env.locals) (hex : X.ex = []) (hN : X.N.Nodup) (hi : X.N[i]? = some n) (hln : X.env.kindOf n = some .local) (hj : X.N[j]? = some y) (hy : Loc X.env.scope y) (hfy : X.fn y = true) (hc : Names X x c) (hE : XsD X.K X.mg c ex)
    (hb : ∀ pn, FSs (X.tr pn fun _ _ => False) body fb) (hx : ∀ pn xe, FX (X.tr pn xe) body gb) (hnd : NotDebug n := by decide) (hnc : (n == ("__classdict__" : Str)) = false := by decide) :
    FS X (.Try body [.ExceptHandler (some (.Name x np)) (some n) [.Assign [.Name y p1] (.Name n p2) p3] p4] [] [] pos) (tryM ex i j fb gb) := fun F => by
  refine PS.wk (ps_keep (tb := fun W D σ H => tS (ct X) F fb D σ H ∨ tXS (ct X) F gb W D σ H) hs hf hex hN hi hln hnd hnc hj hy hfy hc fun W pn xe tk po => ⟨fun pins s σ H D I q => ?_⟩) fun E σ H q => ?_
  · rcases q with q | q
    · exact (PSs.nox (X := X.tr pn xe) (hb pn F)).run pins s σ H D I q
    · exact (hx pn xe W ⟨tk, po⟩ F).run pins s σ H D I q
  · obtain ⟨O, ρ, w, fl, ρ', w', S, e, k⟩ := q
    unfold tryM at e
    split at e
    · rename_i z ez
      cases e
      exact .inl ⟨O, ρ, w, fl, ρ', w', S, ez, k⟩
    · split at e
      · rename_i xn ρ1 w1 eg
        split at e
        · rename_i hin
          cases e
          refine .inr ⟨O, ρ, w, xn, ρ1, w', S, eg, fun σ1 O1 H1 cls d S1 x1 xo => ?_⟩
          obtain ⟨C, rfl, mC, xo⟩ := xo
          obtain ⟨C', mC', em⟩ := hE xn.cn (by simpa using hin)
          rw [show X.mg xn.cn = some (.ref C) from mC] at mC'
          cases mC'
          refine ⟨em, C, rfl, fun a na => ?_⟩
          have g := Ex.new (o := EXQ a C d) na
          have nO : a ∉ O1 := fun z => by
            obtain ⟨o, q, _⟩ := S1.trk a z
            rw [na] at q
            cases q
          have r : Rep (ct X) F.dr.da (vis O1 (upd H1 a (EXQ a C d))) (.ref a) (.exc xn.cn xn.gs) := by
            rcases xo with ⟨dx, fs, rfl, vd, rf⟩ | ⟨rfl, eg⟩
            · exact .exc (C := C) (dx := dx) (fs := fs) (by rw [vis_out nO, upd_same]) (vis_mono g _ _ vd) mC (rf.mono (vis_mono g))
            · rw [eg]
              exact .exn (C := C) (by rw [vis_out nO, upd_same]) mC
          exact k _ O1 _ ((((S1.grow g).void i (some (.ref a))).setVal j r).void i none) (x1.trans (vis_mono g))
        · cases e
      · cases e
end
/-! ### isinstance, fields -/
abbrev XTy := L2.ExcC
section
variable {X : Cx} {pins : List (Addr × PySem.Obj)} {σ : L2.St} {H : Hp} {s : Shared} {a C dx : Addr} {fs : List (Str × V)}
theorem exc_at (I : Inv X pins σ H s) (ea : H a = some (EXO a C dx)) (ed : H dx = some (.xd fs)) : ∃ (oe od : PySem.Obj) (mA : Str → Option Value), PySem.W.InstAt s.heap a oe C (some od) ∧ (∀ f, PySem.W.lookIn f od = some (mA f)) ∧ ∀ f, RelO (fs.lookup f) (mA f) := by
  obtain ⟨⟨oe, vs, h1, h2, h3, h4⟩, _⟩ := (show ObjOk X.prog X.w H s.heap a (EXO a C dx) from I.hok a _ ea)
  obtain ⟨mA, hn, hr⟩ := (show ObjOk X.prog X.w H s.heap dx (.xd fs) from I.hok dx _ ed)
  obtain ⟨od, ho, hl⟩ := lookIn_ns hn
  refine ⟨oe, od, mA, ⟨h1, h2, ?_, ?_⟩, hl, hr⟩
  · unfold PySem.W.notCls
    rw [h4]
  · rw [h3]
    exact ho
theorem xat_at (I : Inv X pins σ H s) (e : XAt H a C) : ∃ (oe : PySem.Obj) (o' : Option PySem.Obj), PySem.W.InstAt s.heap a oe C o' := by
  rcases e with ⟨dx, fs, ea, ed⟩ | e | e
  · obtain ⟨oe, od, _, J, _, _⟩ := exc_at I ea ed
    exact ⟨oe, _, J⟩
  · obtain ⟨⟨oe, vs, h1, h2, h3, _⟩, _⟩ := (show ObjOk X.prog X.w H s.heap a (ExO (.ref C) a) from I.hok a _ e)
    refine ⟨oe, none, h1, h2.1, ?_, ?_⟩
    · unfold PySem.W.notCls
      rw [h3]
    · rw [h2.2]
      trivial
  · obtain ⟨⟨oe, vs, h1, h2, h3, h4⟩, _⟩ := (show ObjOk X.prog X.w H s.heap a (EXQ a C none) from I.hok a _ e)
    refine ⟨oe, none, h1, h2, ?_, ?_⟩
    · unfold PySem.W.notCls
      rw [h4]
    · rw [h3]
      trivial
theorem kit_exc (T : XTy X.K C) {oe : PySem.Obj} {o' : Option PySem.Obj} : PySem.W.KitX X.K (.ref a) (.ref C) (fun h => PySem.W.InstAt h a oe C o') := by
  obtain ⟨cd, hc, _⟩ := PySem.W.any_some T.hd
  exact PySem.W.kitx_exc (by rw [hc]; rfl) T.hg T.hk T.hs T.ha T.hn T.ht T.hm
def rIsx (K : PySem.W.Frag) : List V → Hp → VK → Prop := fun xs H Q => ∃ (a C : Addr) (c : V) (u : Value) (b : Bool), xs = [.ref a, c] ∧ XAt H a C ∧ XTy K C ∧ ClsV c u ∧ PySem.W.kitOne K (.ref C) u = some b ∧ Q (.bl b) H
theorem call_isx : CallR X (.builtin "isinstance") (rIsx X.K) := fun pins s σ H xs us Q I r h => by
  obtain ⟨a, C, c, u, b, rfl, ea, T, k, e, q⟩ := h
  obtain ⟨u1, u2, rfl, r1, r2⟩ := vals2 r
  obtain rfl := k.eq r2
  cases r1
  obtain ⟨oe, o', J⟩ := xat_at I ea
  exact PySem.W.kia_one (kit_exc T) I.kIn J e (fun z => nomatch z) fun tk => ⟨.bl b, H, I.tok tk, rfl, q⟩
end
structure KxD (K : PySem.W.Frag) (mg : Str → Option Value) (ok : Value → Bool → Prop) (ic : List (Str × Bool)) : Prop where
  all : ∀ p ∈ ic, ∃ C, mg p.1 = some (.ref C) ∧ XTy K C ∧ ok (.ref C) p.2
def isxD (ic : List (Str × Bool)) : D → Option RV
  | .exc cn _ => (ic.lookup cn).map fun b => .sh (.bl b)
  | _ => none
def xfD (cns : List Str) (f : Str) : D → Option RV
  | .exc cn gs => if cns.contains cn then (gs.lookup f).map .sh else none
  | _ => none
structure KfD (K : PySem.W.Frag) (mg : Str → Option Value) (cns : List Str) (f : Str) : Prop where
  all : ∀ cn ∈ cns, ∃ C, mg cn = some (.ref C) ∧ XfC K C ∧ PySem.W.findIn K (.ref C) f = some none
section
variable {X : Cx} {a c1 e : Expr} {cs : List Expr} {pos p p2 : Pos} {ic : List (Str × Bool)} {cns : List Str} {f : Str} {fa : M RV}
theorem fe_isx {u : V} {uv : Value} (hg : Gl X "isinstance") (hm : X.mg "isinstance" = none) (hc : PE X c1 (tC u)) (hu : ClsV u uv) (hk : KxD X.K X.mg (fun t b => PySem.W.kitOne X.K t uv = some b) ic) (ha : FE X a fa)
    (hs : Plain1 X a [c1] := by rfl) (hs2 : Plain1 X c1 [] := by rfl) (hpl : PlainR X [c1] pos := by rfl) : FE X (.Call (.Name "isinstance" p) [a, c1] [] pos) (op1M (isxD ic) fa) := fun F =>
  PE.wk (pe_callB call_isx hg hm bt_isi (pa_cons (ha F) (pks_cons hc pks_nil hs2) hs) (by decide) (by decide) hs hpl) fun σ H Q q => by
    obtain ⟨O, ρ, w, r, ρ', w', S, e, k⟩ := q
    refine tE_then S e fun v O1 ρ1 w1 H1 r1 S1 e1 R1 h1 => ?_
    obtain ⟨d1, r', q1, eg, ez⟩ := lift1_some h1
    cases ez
    have P := R1.hold.peek S1 q1
    cases d1 with
    | exc cn gs =>
      obtain ⟨y, C, rfl, m, ea, _⟩ := P.exc
      unfold isxD at eg
      dsimp only at eg
      cases q : ic.lookup cn with
      | none =>
        rw [q] at eg
        cases eg
      | some b =>
        rw [q] at eg
        cases eg
        obtain ⟨C', m', T, o⟩ := hk.all _ (lookup_mem q)
        rw [show X.mg cn = some (.ref C) from m] at m'
        cases m'
        exact ⟨y, C, u, uv, b, rfl, ea, T, hu, o, k _ O1 H1 S1 e1 (Rep.bl b)⟩
    | _ => cases eg
theorem fe_xf (hk : KfD X.K X.mg cns f) (he : FE X e fa) (hb : attributeBase e f X.env (eval e X.env) = eval e X.env := by rfl) : FE X (.Attribute e f pos) (op1M (xfD cns f) fa) := fun F => ⟨fun pins s σ H Q I q => by
  obtain ⟨O, ρ, w, r, ρ', w', S, ee, k⟩ := q
  have t : tE (ct X) F fa σ H fun v H1 => ∃ y C dx fs u, v = .ref y ∧ H1 y = some (EXO y C dx) ∧ H1 dx = some (.xd fs) ∧ XfC X.K C ∧ PySem.W.findIn X.K (.ref C) f = some none ∧ fs.lookup f = some u ∧ Q u H1 := by
    refine tE_then S ee fun v O1 ρ1 w1 H1 r1 S1 e1 R1 h1 => ?_
    obtain ⟨d1, r', q1, eg, ez⟩ := lift1_some h1
    cases ez
    have P := R1.hold.peek S1 q1
    cases d1 with
    | exc cn gs =>
      obtain ⟨y, C, rfl, m, _, z⟩ := P.exc
      unfold xfD at eg
      dsimp only at eg
      split at eg
      · rename_i hin
        rcases z with rfl | ⟨dx, fs, ea, ed, rf⟩
        · cases eg
        cases q : gs.lookup f with
        | none =>
          rw [q] at eg
          cases eg
        | some d =>
          rw [q] at eg
          cases eg
          obtain ⟨C', m', T, no⟩ := hk.all cn (by simpa using hin)
          rw [show X.mg cn = some (.ref C) from m] at m'
          cases m'
          obtain ⟨u, lu, ru⟩ := rf.lookup q
          exact ⟨y, C, dx, fs, u, rfl, ea, ed, T, no, lu, k _ O1 H1 S1 e1 ru⟩
      · cases eg
    | _ => cases eg
  refine attr_of hb (thn ((he F).run pins s σ H _ I t) fun z s1 ⟨v, H1, I1, rv, y, C, dx, fs, u, ev, ea, ed, T, no, lu, qu⟩ => ?_)
  subst ev
  cases rv
  obtain ⟨oe, od, mA, J, hl, hr⟩ := exc_at I1 ea ed
  obtain ⟨z, hz, rz⟩ := RelO.some_of (v := u) (o := mA f) (by rw [← lu]; exact hr f)
  exact HandSPX.exc_get I1.kIn J T.ga T.gg T.exC (PySem.W.findObj_own T.hdC no rfl (by rw [hl, hz])) (handed_of rz) ⟨u, H1, I1.tok _, rz, qu⟩⟩
end
end FD

end sec_XD5
section sec_XD6
set_option maxRecDepth 100000
set_option maxHeartbeats 5000000
/-! XD6: short forms for the printed derivations of runs that raise. -/
namespace FD
open PySem L2
variable [Tabl]
/-- the clause's class, and the classes that it takes -/
structure XcatD (K : PySem.W.Frag) (mg : Str → Option Value) (x : Str) (ex : List Str) : Prop where
  ex : ∃ C, mg x = some (.ref C) ∧ XsD K mg (.ref C) ex
structure IsxC (K : PySem.W.Frag) (mg : Str → Option Value) (cn : Str) (ic : List (Str × Bool)) : Prop where
  ex : ∃ C, mg cn = some (.ref C) ∧ KxD K mg (fun t b => PySem.W.kitOne K t (.ref C) = some b) ic
section
variable {X : Cx} {x n y cn : Str} {i j : Nat} {body : List Stmt} {np p1 p2 p3 p4 p pos : Pos} {ex : List Str} {fb : M Fl} {gb : M Xn} {ic : List (Str × Bool)} {a : Expr} {fa : M RV}
theorem fs_try (hs : X.stack = X.env :: X.outer) (hf : X.env.frame = some X.env.locals) (hex : X.ex = []) (hN : X.N.Nodup) (hi : X.N[i]? = some n) (hln : X.env.kindOf n = some .local) (hj : X.N[j]? = some y) (hy : Loc X.env.scope y) (hfy : X.fn y = true) (hg : Gl X x) (hE : XcatD X.K X.mg x ex)
    (hb : ∀ pn, FSs (X.tr pn fun _ _ => False) body fb) (hx : ∀ pn xe, FX (X.tr pn xe) body gb) (hxd : NotDebug x := by decide) (hnd : NotDebug n := by decide) (hnc : (n == ("__classdict__" : Str)) = false := by decide) :
    FS X (.Try body [.ExceptHandler (some (.Name x np)) (some n) [.Assign [.Name y p1] (.Name n p2) p3] p4] [] [] pos) (tryM ex i j fb gb) := by
  obtain ⟨C, m, k⟩ := hE.ex
  exact fs_tryK hs hf hex hN hi hln hj hy hfy ⟨hg, hxd, .inl m⟩ k hb hx hnd hnc
theorem fe_isxC (h : IsxC X.K X.mg cn ic) (hgc : Gl X cn) (hm : X.mg "isinstance" = none) (hg : Gl X "isinstance") (ha : FE X a fa) (hd : NotDebug cn := by decide)
    (hs : Plain1 X a [.Name cn p] := by rfl) (hs2 : Plain1 X (.Name cn p) [] := by rfl) (hpl : PlainR X [.Name cn p] pos := by rfl) : FE X (.Call (.Name "isinstance" p1) [a, .Name cn p] [] pos) (op1M (isxD ic) fa) := by
  obtain ⟨C, mc, k⟩ := h.ex
  exact fe_isx hg hm (pe_glob (v := .ref C) hgc mc rfl hd) (.own C) k ha hs hs2 hpl
end
end FD

end sec_XD6
section sec_XD7
set_option maxRecDepth 100000
set_option maxHeartbeats 5000000
/-! XD7: isinstance of a caught exception, with a tuple of own classes. -/
namespace FD
open PySem L2
variable [Tabl]
structure IsxT3 (K : PySem.W.Frag) (mg : Str → Option Value) (ca cb cc : Str) (ic : List (Str × Bool)) : Prop where
  ex : ∃ A B C : Addr, mg ca = some (.ref A) ∧ mg cb = some (.ref B) ∧ mg cc = some (.ref C) ∧ KxD K mg (fun t b => PySem.W.kitAny K t [.ref A, .ref B, .ref C] = some b) ic
structure IsxT2 (K : PySem.W.Frag) (mg : Str → Option Value) (ca cb : Str) (ic : List (Str × Bool)) : Prop where
  ex : ∃ A B : Addr, mg ca = some (.ref A) ∧ mg cb = some (.ref B) ∧ KxD K mg (fun t b => PySem.W.kitAny K t [.ref A, .ref B] = some b) ic
section
variable {X : Cx} {a : Expr} {cs : List Expr} {fa : M RV} {ic : List (Str × Bool)} {p p2 pa pb pc pos : Pos} {ca cb cc : Str}
end
end FD

end sec_XD7
section sec_XD8
set_option maxRecDepth 100000
set_option maxHeartbeats 5000000
/-! XD8: own operators and subscripts that raise; C(..) that raises. -/
namespace FD
open PySem L2
variable [Tabl]
structure XpcD (P : Program) (w : World) (K : PySem.W.Frag) (mg : Str → Option Value) (base : Heap) (k : Nat) (cn nm : Str) (n : Nat) (den : List D → W → Option (Xn × W)) : Prop where
  ex : ∃ (C f : Addr) (fd : FuncData) (ps : List Str), mg cn = some (.ref C) ∧ PySem.W.selfFirst K C = true ∧ PySem.W.findIn K (.ref C) nm = some (some (.ref f)) ∧ PySem.W.isFn K (.ref f) = true ∧ PySem.W.fnIn K f = true ∧ FnOk P w K mg base (L2.CX P w) k f fd ps (spX ⟨K, mg⟩ n den) ∧ Binds K fd ps []
def opOX (cn : Str) (den : List D → W → Option (Xn × W)) (fa fb : M RV) : M Xn := bindM fa fun r1 => bindM fb fun r2 => bindM (insR cn r1) fun d1 => bindM (insR cn r2) fun d2 => runX den [d1, d2]
section
variable {X : Cx} {a b : Expr} {pos : Pos} {cn : Str} {k j : Nat} {den : List D → W → Option (Xn × W)} {fa fb : M RV}
end
end FD

end sec_XD8
section sec_FD64
set_option maxRecDepth 100000
set_option maxHeartbeats 2000000
/-! FD64: texts turned about. -/
namespace FD
open PySem PySem.Spec PyProof.Rows L2
def revX (x : Str) : Str := ⟨x.cps.toList.reverse.toArray⟩
theorem revX_len (x : Str) : (revX x).length = x.length := by simp [revX, Str.length]
theorem picked_rev (x : Str) : slicePicked x none none (some ((-1 : Int), (tk : Tok))) = (List.range x.length).map fun k => x.length - 1 - k := by
  have e : slicePicked x none none (some ((-1 : Int), tk)) = sliceRange ((x.length : Int) - 1) (-1) (-1) := rfl
  rw [e]
  unfold sliceRange
  have c : (if (-1 : Int) > 0 then (if ((x.length : Int) - 1) < -1 then (-1 - ((x.length : Int) - 1) + -1 - 1) / -1 else 0) else (if ((x.length : Int) - 1) > -1 then (((x.length : Int) - 1) - -1 - -1 - 1) / (- -1) else 0)) = (x.length : Int) := by
    rw [if_neg (by decide)]
    split
    · simp
    · omega
  dsimp only
  rw [c, Int.toNat_natCast]
  refine List.map_congr_left fun k hk => ?_
  have hk := List.mem_range.mp hk
  omega
theorem sliceBy_rev (x : Str) (tk : Tok) : Txt.sliceBy x none none (-1, tk) = revX x := by
  unfold Txt.sliceBy
  rw [if_neg (by simp), picked_rev]
  unfold revX
  congr 2
  rw [List.filterMap_map]
  have h := range_pick x.cps.toList.reverse
  rw [List.length_reverse, Array.length_toList] at h
  rw [← h]
  refine fm_congr fun k hk => ?_
  have hk : k < x.cps.size := List.mem_range.mp hk
  show x.cps[x.cps.size - 1 - k]? = _
  rw [List.getElem?_reverse (by simpa using hk), Array.length_toList]
  simp
def tRevX (te : TE) : TE := fun σ H Q => te σ H fun x H1 => ∃ y : Str, x = V.str y ∧ y.length ≤ sizeLine ∧ Q (.str (revX y)) H1
section
variable {X : Cx} {e : Expr} {te : TE} {k : Nat} {p1 p2 p3 pos : Pos}
/-- t[::-1] -/
theorem pe_revX (he : PE X e te) : PE X (.Subscript e (.Slice none none (some (.UnaryOp .USub (.Constant (.int 1) k p1) p2)) p3) pos) (tRevX te) := by
  have step : PO X (some (.UnaryOp .USub (.Constant (.int 1) k p1) p2)) (tPart (tUn (rU fun i => .int (-i)) (tC (.int 1)))) := po_some (pe_un un_neg pe_int)
  constructor
  intro pins s σ H Q I h
  refine Subscript_ (thn (he.run pins s σ H _ I h) fun v s1 z => ?_)
  obtain ⟨x, H1, I1, r1, y, rfl, hy, q⟩ := z
  obtain ⟨t, rfl⟩ := r1
  refine wpAny_Slice (thn (po_none.run pins s1 σ H1 (fun o H2 => o = none ∧ H2 = H1) I1 ⟨rfl, rfl⟩) fun vl s2 z => ?_)
  obtain ⟨l, H2, I2, pl, rfl, rfl⟩ := z
  refine thn (po_none.run pins s2 σ H2 (fun o H3 => o = none ∧ H3 = H2) I2 ⟨rfl, rfl⟩) fun vu s3 z => ?_
  obtain ⟨u, H3, I3, pu, rfl, rfl⟩ := z
  refine thn (step.run pins s3 σ H3 (fun o H4 => o = some (-1) ∧ H4 = H3) I3 ⟨1, rfl, -1, rfl, rfl, rfl⟩) fun vs s4 z => ?_
  obtain ⟨o, H4, I4, ps, rfl, rfl⟩ := z
  cases pl
  cases pu
  cases ps with
  | int i tk =>
    have I5 : ∀ c, Inv X pins σ H4 { s4 with heap := s4.heap.push { cls := .type "slice", data := .fields #[.none, .none, .int (-1) tk] }, toks := c } := fun c => I4.kept (t' := c) fun b ob g => Heap.get?_push_of_some _ g
    have e := sliceBy_rev y tk
    refine tail_any (s := { s4 with heap := s4.heap.push { cls := .type "slice", data := .fields #[.none, .none, .int (-1) tk] } }) (ops := [.str y t, .ref s4.heap.objs.size]) (typeIs_str _ y t) PySem.F.slot_str_getitem.lookup ?_ (by with_unfolding_all rfl)
    refine wpAny_getItem_str_slice (l := none) (u := none) (st := some (-1, tk)) ⟨_, Heap.get?_push_size _ rfl, rfl, rfl⟩ rfl (post_val_or_str ?_)
    show (Txt.sliceBy y none none (-1, tk)).length ≤ sizeLine ∧ ∀ t' c, EP X pins σ Q (.str (Txt.sliceBy y none none (-1, tk)) t') _
    rw [e]
    exact ⟨by rw [revX_len]; exact hy, fun t' c => ⟨.str (revX y), H4, I5 c, ⟨t', rfl⟩, q⟩⟩
def revS : D → Option RV
  | .str x => if x.length ≤ 1000000 then some (.sh (.str (revX x))) else none
  | _ => none
variable [Tabl] {fe : M RV}
theorem fe_revS (he : FE X e fe) : FE X (.Subscript e (.Slice none none (some (.UnaryOp .USub (.Constant (.int 1) k p1) p2)) p3) pos) (op1M revS fe) := fun F =>
  PE.wk (pe_revX (he F)) fun σ H Q h => by
    obtain ⟨O, ρ, w, r, ρ', w', S, e, kk⟩ := h
    refine tE_then S e fun v O1 ρ1 w1 H1 r1 S1 e1 R1 h1 => ?_
    obtain ⟨d1, r', q1, eg, ez⟩ := lift1_some h1
    cases ez
    have P := R1.hold.peek S1 q1
    unfold revS at eg
    split at eg
    · split at eg
      · rename_i x hx
        cases eg
        obtain rfl := P.str
        exact ⟨x, rfl, by rw [PySem.sizeLine_eq]; omega, kk _ O1 _ S1 e1 (.str _)⟩
      · cases eg
    · cases eg
end
end FD

end sec_FD64
section sec_LM1
set_option maxRecDepth 100000
set_option maxHeartbeats 5000000
/-! LM1: objects that are tracked for a while (a lambda, its cells): data without lambdas, and calls' ends with and without them. -/
namespace FD
open PySem L2
variable [Tabl]
def dropC (C : List Addr) (H : Hp) : Hp := fun b => if b ∈ C then none else H b
theorem drop_out {C : List Addr} {H : Hp} {b : Addr} (h : b ∉ C) : dropC C H b = H b := if_neg h
mutual
def lf : D → Bool
  | .tup ds => lfs ds
  | .ktup ds => lfs ds
  | .lst ds => lfs ds
  | .dic ps => lfp ps
  | .dit ps => lfp ps
  | .fdit ps => lfp ps
  | .ins _ fs => lff fs
  | .exc _ fs => lff fs
  | .lam _ _ => false
  | _ => true
def lfs : List D → Bool
  | [] => true
  | d :: r => lf d && lfs r
def lfp : List (D × D) → Bool
  | [] => true
  | (_, d) :: r => lf d && lfp r
def lff : List (Str × D) → Bool
  | [] => true
  | (_, d) :: r => lf d && lff r
end
/-- C holds objects that stay as they are -/
structure Still (C : List Addr) (G : Hp) : Prop where
  is : ∀ a ∈ C, ∃ o, G a = some (StO a o)
  noC : ∀ a ∈ C, ∀ q, G a ≠ some (LamX.CodeO a q)
  noX : ∀ a ∈ C, ∀ C' dx, G a ≠ some (EXQ a C' dx)
  noN : ∀ a ∈ C, ∀ u, G a ≠ some (ExO u a)
theorem still_of {P : Program} {w : World} {H : Hp} {h : Heap} {C : List Addr} (k : HOk P w H h) (s : ∀ a ∈ C, ∃ o, H a = some (StO a o) ∧ ∀ vs, o.data ≠ .fields vs) : Still C H := by
  refine ⟨fun a q => ?_, fun a q x z => ?_, fun a q C' dx z => ?_, fun a q u z => ?_⟩
  · obtain ⟨o, e, _⟩ := s a q
    exact ⟨o, e⟩
  · obtain ⟨o, e, n⟩ := s a q
    have p1 : h.get? a = some o := (k a _ e).1
    obtain ⟨oc, vs, t, p2, p3, _⟩ := (k a _ z).1
    rw [p1] at p2
    cases p2
    exact n _ p3
  · obtain ⟨o, e, n⟩ := s a q
    have p1 : h.get? a = some o := (k a _ e).1
    obtain ⟨oc, vs, p2, _, _, p3⟩ := (k a _ z).1
    rw [p1] at p2
    cases p2
    exact n _ p3
  · obtain ⟨o, e, n⟩ := s a q
    have p1 : h.get? a = some o := (k a _ e).1
    obtain ⟨oc, vs, p2, _, p3, _⟩ := (k a _ z).1
    rw [p1] at p2
    cases p2
    exact n _ p3
theorem Still.vis {C O : List Addr} {G : Hp} (s : Still C G) (d : ∀ a ∈ C, a ∉ O) : Still C (FD.vis O G) := by
  refine ⟨fun a q => ?_, fun a q x z => ?_, fun a q C' dx z => ?_, fun a q u z => ?_⟩
  · rw [vis_out (d a q)]
    exact s.is a q
  · rw [vis_out (d a q)] at z
    exact s.noC a q x z
  · rw [vis_out (d a q)] at z
    exact s.noX a q C' dx z
  · rw [vis_out (d a q)] at z
    exact s.noN a q u z
theorem vis_drop {C O : List Addr} {G : Hp} : FD.vis O (dropC C G) = dropC C (FD.vis O G) := by
  funext b
  unfold FD.vis dropC
  by_cases h1 : b ∈ O <;> by_cases h2 : b ∈ C <;> simp [h1, h2]
section
variable {c : Ct} {da : DA} {G : Hp} {C : List Addr}
theorem Still.keep (h : Still C G) {a : Addr} {u : HO} (e : G a = some u) (n : ∀ φ, u ≠ .ext φ) : dropC C G a = some u := by
  rw [drop_out fun q => ?_]
  · exact e
  · obtain ⟨o, e2⟩ := h.is a q
    rw [e] at e2
    cases e2
    exact n _ rfl
theorem Still.rd (h : Still C G) {a : Addr} {u : HO} (e : Rd G a u) (n : ∀ φ, u ≠ .ext φ) : Rd (dropC C G) a u := by
  rcases e with e | ⟨o, e⟩
  · exact .inl (h.keep e n)
  · exact .inr ⟨o, h.keep e fun φ z => by cases z⟩
mutual
theorem Rep.off (h : Still C G) : ∀ {v : V} {d : D}, Rep c da G v d → lf d = true → Rep c da (dropC C G) v d
  | _, _, .non, _ => .non
  | _, _, .bl b, _ => .bl b
  | _, _, .int i, _ => .int i
  | _, _, .str x, _ => .str x
  | _, _, .ty n, _ => .ty n
  | _, _, .draw e, _ => .draw e
  | _, _, .obj e, _ => .obj e
  | _, _, .tok e, _ => .tok e
  | _, _, .tup e r, l => .tup (h.keep e fun φ z => by cases z) (RepAll.off h r (by simpa [lf] using l))
  | _, _, .ktup e r, l => .ktup (e.elim (fun e => .inl (h.rd e fun φ z => by cases z)) .inr) (RepAll.off h r (by simpa [lf] using l))
  | _, _, .lst e r, l => .lst (h.keep e fun φ z => by cases z) (RepAll.off h r (by simpa [lf] using l))
  | _, _, .scr e, _ => .scr (e.elim (fun e => .inl (h.rd e fun φ z => by cases z)) .inr)
  | _, _, .dK e r, l => .dK (h.keep e fun φ z => by cases z) (RepKV.off h r (by simpa [lf] using l))
  | _, _, .dT e r, l => .dT (h.keep e fun φ z => by cases z) (RepKT.off h r (by simpa [lf] using l))
  | _, _, .fdT e r, l => .fdT (h.keep e fun φ z => by cases z) (RepKT.off h r (by simpa [lf] using l))
  | _, _, .exc e e2 m r, l => .exc (by rw [drop_out fun q => h.noX _ q _ _ e]; exact e) (h.keep e2 fun φ z => by cases z) m (RepF.off h r (by simpa [lf] using l))
  | _, _, .exo e m, l => .exo (by rw [drop_out fun q => h.noN _ q _ e]; exact e) m
  | _, _, .exn e m, l => .exn (by rw [drop_out fun q => h.noX _ q _ _ e]; exact e) m
  | _, _, .ins e m r, l => .ins (h.keep e fun φ z => by cases z) m (RepF.off h r (by simpa [lf] using l))
  | _, _, .lam _ _ _ _ _, l => by simp [lf] at l
theorem RepAll.off (h : Still C G) : ∀ {v : List V} {d : List D}, RepAll c da G v d → lfs d = true → RepAll c da (dropC C G) v d
  | _, _, .nil, _ => .nil
  | _, _, .cons a r, l => by
    simp only [lfs, Bool.and_eq_true] at l
    exact .cons (Rep.off h a l.1) (RepAll.off h r l.2)
theorem RepKV.off (h : Still C G) : ∀ {v : List (Key × V)} {d : List (D × D)}, RepKV c da G v d → lfp d = true → RepKV c da (dropC C G) v d
  | _, _, .nil, _ => .nil
  | _, _, .cons a r, l => by
    simp only [lfp, Bool.and_eq_true] at l
    exact .cons (Rep.off h a l.1) (RepKV.off h r l.2)
theorem RepKT.off (h : Still C G) : ∀ {v : List (List Key × V)} {d : List (D × D)}, RepKT c da G v d → lfp d = true → RepKT c da (dropC C G) v d
  | _, _, .nil, _ => .nil
  | _, _, .cons a r, l => by
    simp only [lfp, Bool.and_eq_true] at l
    exact .cons (Rep.off h a l.1) (RepKT.off h r l.2)
theorem RepF.off (h : Still C G) : ∀ {v : List (Str × V)} {d : List (Str × D)}, RepF c da G v d → lff d = true → RepF c da (dropC C G) v d
  | _, _, .nil, _ => .nil
  | _, _, .cons a r, l => by
    simp only [lff, Bool.and_eq_true] at l
    exact .cons (Rep.off h a l.1) (RepF.off h r l.2)
end
theorem DrawAt.off {dr : Dr} {w : W} (h : Still C G) (d : DrawAt dr w G) : DrawAt dr w (dropC C G) := by
  refine ⟨fun t q => ?_, fun p hp => ?_⟩
  · obtain ⟨a1, a2, a3, a4⟩ := d.1 t q
    exact ⟨h.keep a1 (fun φ z => by cases z), h.keep a2 (fun φ z => by cases z), h.keep a3 (fun φ z => by cases z), a4⟩
  · obtain ⟨ps, e1, e2, e3⟩ := d.2 p hp
    refine ⟨ps, h.keep e1 (fun φ z => by cases z), e2, fun pos cv hc => ?_⟩
    obtain ⟨c', z1, z2⟩ := e3 pos cv hc
    exact ⟨c', z1, by rw [drop_out fun q => h.noC _ q _ z2]; exact z2⟩
end
theorem Obj.off {c : Ct} {da : DA} {G : Hp} {C : List Addr} {o : HO} {d : D} (h : Still C G) (b : Obj c da G o d) (l : lf d = true) : Obj c da (dropC C G) o d := by
  rcases b with ⟨xs, ds, h1, rfl, r⟩ | ⟨kvs, ps, h1, rfl, r⟩ | ⟨kvs, ps, h1, rfl, r⟩ | ⟨C', dx, fs, cn, gs, h1, rfl, h3, r⟩
  · exact .inl ⟨xs, ds, h1, rfl, r.off h (by simpa [lf] using l)⟩
  · exact .inr (.inl ⟨kvs, ps, h1, rfl, r.off h (by simpa [lf] using l)⟩)
  · exact .inr (.inr (.inl ⟨kvs, ps, h1, rfl, r.off h (by simpa [lf] using l)⟩))
  · exact .inr (.inr (.inr ⟨C', dx, fs, cn, gs, h1, rfl, h3, r.off h (by simpa [lf] using l)⟩))
theorem lfs_mem : ∀ {ds : List D} {d : D}, lfs ds = true → d ∈ ds → lf d = true
  | e :: r, d, h, m => by
    simp only [lfs, Bool.and_eq_true] at h
    rcases List.mem_cons.mp m with rfl | m
    · exact h.1
    · exact lfs_mem h.2 m
theorem DS.off {c : Ct} {G : Hp} {C : List Addr} {dr : Dr} {w : W} {O : List Addr} (h : Still C G) (dis : ∀ a ∈ C, a ∉ O) (l : lfs w.st = true) (d : DS c dr w O G) : DS c dr w O (dropC C G) := by
  refine ⟨d.d.off h, d.s.len, d.s.nd, d.s.dj, fun k a e h1 h2 => ?_⟩
  obtain ⟨o, h3, h4⟩ := d.s.is k a e h1 h2
  refine ⟨o, h.keep h3 fun φ z => h4.nt [] (by rw [z]; rfl), ?_⟩
  rw [vis_drop]
  exact h4.off (h.vis dis) (lfs_mem l (List.mem_of_getElem? h2))
/-! ### the heap with and without them -/
section
variable {P : Program} {w : World} {H H1 H2 H' : Hp} {h h' : Heap} {fs : List Addr} {C : List Addr}
/-- H2 is H1 and C besides, which stand still in h and stay tracked in H' -/
structure Besides (H1 H2 : Hp) (h : Heap) (fs C : List Addr) : Prop where
  none : ∀ a ∈ C, H1 a = Option.none ∧ a ∉ fs
  is : ∀ a ∈ C, ∃ o, h.get? a = some o ∧ H2 a = some (StO a o)
  out : ∀ a, a ∉ C → H2 a = H1 a
end
end FD

end sec_LM1
section sec_FD50
set_option maxRecDepth 100000
set_option maxHeartbeats 5000000
/-! FD50: objects of the store: reading, writing; own things lent to a call. -/
namespace FD
open PySem L2
variable [Tabl]
mutual
/-- no object of the store from n on -/
def cz (n : Nat) : D → Bool
  | .tup ds => czs n ds
  | .ktup ds => czs n ds
  | .lst ds => czs n ds
  | .dic ps => czp n ps
  | .dit ps => czp n ps
  | .fdit ps => czp n ps
  | .ins _ fs => czf n fs
  | .exc _ fs => czf n fs
  | .lam _ ds => czs n ds
  | .obj k => decide (k < n)
  | _ => true
def czs (n : Nat) : List D → Bool
  | [] => true
  | d :: r => cz n d && czs n r
def czp (n : Nat) : List (D × D) → Bool
  | [] => true
  | (_, d) :: r => cz n d && czp n r
def czf (n : Nat) : List (Str × D) → Bool
  | [] => true
  | (_, d) :: r => cz n d && czf n r
end
section
variable {c : Ct} {da da' : DA} {G : Hp}
mutual
theorem Rep.up (h : ∀ (k : Nat) a, da.ob[k]? = some a → da'.ob[k]? = some a) (hd : da'.d = da.d) (ht : da'.tok = da.tok) : ∀ {v : V} {d : D}, Rep c da G v d → Rep c da' G v d
  | _, _, .non => .non
  | _, _, .bl b => .bl b
  | _, _, .int i => .int i
  | _, _, .str x => .str x
  | _, _, .ty n => .ty n
  | _, _, .draw e => .draw (hd.trans e)
  | _, _, .obj e => .obj (h _ _ e)
  | _, _, .tok e => .tok (by rw [ht]; exact e)
  | _, _, .tup e r => .tup e (RepAll.up h hd ht r)
  | _, _, .ktup e r => .ktup e (RepAll.up h hd ht r)
  | _, _, .lst e r => .lst e (RepAll.up h hd ht r)
  | _, _, .scr e => .scr e
  | _, _, .dK e r => .dK e (RepKV.up h hd ht r)
  | _, _, .dT e r => .dT e (RepKT.up h hd ht r)
  | _, _, .fdT e r => .fdT e (RepKT.up h hd ht r)
  | _, _, .exc e e2 m r => .exc e e2 m (RepF.up h hd ht r)
  | _, _, .exo e m => .exo e m
  | _, _, .exn e m => .exn e m
  | _, _, .ins e m r => .ins e m (RepF.up h hd ht r)
  | _, _, .lam t e e2 k r => .lam t e e2 k (RepAll.up h hd ht r)
theorem RepAll.up (h : ∀ (k : Nat) a, da.ob[k]? = some a → da'.ob[k]? = some a) (hd : da'.d = da.d) (ht : da'.tok = da.tok) : ∀ {v : List V} {d : List D}, RepAll c da G v d → RepAll c da' G v d
  | _, _, .nil => .nil
  | _, _, .cons a r => .cons (Rep.up h hd ht a) (RepAll.up h hd ht r)
theorem RepKV.up (h : ∀ (k : Nat) a, da.ob[k]? = some a → da'.ob[k]? = some a) (hd : da'.d = da.d) (ht : da'.tok = da.tok) : ∀ {v : List (Key × V)} {d : List (D × D)}, RepKV c da G v d → RepKV c da' G v d
  | _, _, .nil => .nil
  | _, _, .cons a r => .cons (Rep.up h hd ht a) (RepKV.up h hd ht r)
theorem RepKT.up (h : ∀ (k : Nat) a, da.ob[k]? = some a → da'.ob[k]? = some a) (hd : da'.d = da.d) (ht : da'.tok = da.tok) : ∀ {v : List (List Key × V)} {d : List (D × D)}, RepKT c da G v d → RepKT c da' G v d
  | _, _, .nil => .nil
  | _, _, .cons a r => .cons (Rep.up h hd ht a) (RepKT.up h hd ht r)
theorem RepF.up (h : ∀ (k : Nat) a, da.ob[k]? = some a → da'.ob[k]? = some a) (hd : da'.d = da.d) (ht : da'.tok = da.tok) : ∀ {v : List (Str × V)} {d : List (Str × D)}, RepF c da G v d → RepF c da' G v d
  | _, _, .nil => .nil
  | _, _, .cons a r => .cons (Rep.up h hd ht a) (RepF.up h hd ht r)
end
theorem Obj.up (h : ∀ (k : Nat) a, da.ob[k]? = some a → da'.ob[k]? = some a) (hd : da'.d = da.d) (ht : da'.tok = da.tok) {o : HO} {d : D} (q : Obj c da G o d) : Obj c da' G o d := by
  rcases q with ⟨xs, ds, h1, h2, r⟩ | ⟨kvs, ps, h1, h2, r⟩ | ⟨kvs, ps, h1, h2, r⟩ | ⟨C, dx, fs, cn, gs, h1, h2, h3, r⟩
  · exact .inl ⟨xs, ds, h1, h2, r.up h hd ht⟩
  · exact .inr (.inl ⟨kvs, ps, h1, h2, r.up h hd ht⟩)
  · exact .inr (.inr (.inl ⟨kvs, ps, h1, h2, r.up h hd ht⟩))
  · exact .inr (.inr (.inr ⟨C, dx, fs, cn, gs, h1, h2, h3, r.up h hd ht⟩))
mutual
theorem Rep.down {n : Nat} (h : ∀ (k : Nat), k < n → da'.ob[k]? = da.ob[k]?) (hd : da'.d = da.d) (ht : da'.tok = da.tok) : ∀ {v : V} {d : D}, Rep c da G v d → cz n d = true → Rep c da' G v d
  | _, _, .non, _ => .non
  | _, _, .bl b, _ => .bl b
  | _, _, .int i, _ => .int i
  | _, _, .str x, _ => .str x
  | _, _, .ty n, _ => .ty n
  | _, _, .draw e, _ => .draw (hd.trans e)
  | _, _, .obj e, l => .obj (by rw [h _ (by simpa [cz] using l)]; exact e)
  | _, _, .tok e, _ => .tok (by rw [ht]; exact e)
  | _, _, .tup e r, l => .tup e (RepAll.down h hd ht r (by simpa [cz] using l))
  | _, _, .ktup e r, l => .ktup e (RepAll.down h hd ht r (by simpa [cz] using l))
  | _, _, .lst e r, l => .lst e (RepAll.down h hd ht r (by simpa [cz] using l))
  | _, _, .scr e, _ => .scr e
  | _, _, .dK e r, l => .dK e (RepKV.down h hd ht r (by simpa [cz] using l))
  | _, _, .dT e r, l => .dT e (RepKT.down h hd ht r (by simpa [cz] using l))
  | _, _, .fdT e r, l => .fdT e (RepKT.down h hd ht r (by simpa [cz] using l))
  | _, _, .exc e e2 m r, l => .exc e e2 m (RepF.down h hd ht r (by simpa [cz] using l))
  | _, _, .exo e m, _ => .exo e m
  | _, _, .exn e m, _ => .exn e m
  | _, _, .ins e m r, l => .ins e m (RepF.down h hd ht r (by simpa [cz] using l))
  | _, _, .lam t e e2 k r, l => .lam t e e2 k (RepAll.down h hd ht r (by simpa [cz] using l))
theorem RepAll.down {n : Nat} (h : ∀ (k : Nat), k < n → da'.ob[k]? = da.ob[k]?) (hd : da'.d = da.d) (ht : da'.tok = da.tok) : ∀ {v : List V} {d : List D}, RepAll c da G v d → czs n d = true → RepAll c da' G v d
  | _, _, .nil, _ => .nil
  | _, _, .cons a r, l => by
    simp only [czs, Bool.and_eq_true] at l
    exact .cons (Rep.down h hd ht a l.1) (RepAll.down h hd ht r l.2)
theorem RepKV.down {n : Nat} (h : ∀ (k : Nat), k < n → da'.ob[k]? = da.ob[k]?) (hd : da'.d = da.d) (ht : da'.tok = da.tok) : ∀ {v : List (Key × V)} {d : List (D × D)}, RepKV c da G v d → czp n d = true → RepKV c da' G v d
  | _, _, .nil, _ => .nil
  | _, _, .cons a r, l => by
    simp only [czp, Bool.and_eq_true] at l
    exact .cons (Rep.down h hd ht a l.1) (RepKV.down h hd ht r l.2)
theorem RepKT.down {n : Nat} (h : ∀ (k : Nat), k < n → da'.ob[k]? = da.ob[k]?) (hd : da'.d = da.d) (ht : da'.tok = da.tok) : ∀ {v : List (List Key × V)} {d : List (D × D)}, RepKT c da G v d → czp n d = true → RepKT c da' G v d
  | _, _, .nil, _ => .nil
  | _, _, .cons a r, l => by
    simp only [czp, Bool.and_eq_true] at l
    exact .cons (Rep.down h hd ht a l.1) (RepKT.down h hd ht r l.2)
theorem RepF.down {n : Nat} (h : ∀ (k : Nat), k < n → da'.ob[k]? = da.ob[k]?) (hd : da'.d = da.d) (ht : da'.tok = da.tok) : ∀ {v : List (Str × V)} {d : List (Str × D)}, RepF c da G v d → czf n d = true → RepF c da' G v d
  | _, _, .nil, _ => .nil
  | _, _, .cons a r, l => by
    simp only [czf, Bool.and_eq_true] at l
    exact .cons (Rep.down h hd ht a l.1) (RepF.down h hd ht r l.2)
end
theorem Obj.down {n : Nat} (h : ∀ (k : Nat), k < n → da'.ob[k]? = da.ob[k]?) (hd : da'.d = da.d) (ht : da'.tok = da.tok) {o : HO} {d : D} (q : Obj c da G o d) (l : cz n d = true) : Obj c da' G o d := by
  rcases q with ⟨xs, ds, h1, h2, r⟩ | ⟨kvs, ps, h1, h2, r⟩ | ⟨kvs, ps, h1, h2, r⟩ | ⟨C, dx, fs, cn, gs, h1, h2, h3, r⟩
  · subst h2
    exact .inl ⟨xs, ds, h1, rfl, r.down h hd ht (by simpa [cz] using l)⟩
  · subst h2
    exact .inr (.inl ⟨kvs, ps, h1, rfl, r.down h hd ht (by simpa [cz] using l)⟩)
  · subst h2
    exact .inr (.inr (.inl ⟨kvs, ps, h1, rfl, r.down h hd ht (by simpa [cz] using l)⟩))
  · subst h2
    exact .inr (.inr (.inr ⟨C, dx, fs, cn, gs, h1, rfl, h3, r.down h hd ht (by simpa [cz] using l)⟩))
end

/-! ### what is an object of the store is looked at there -/
def obM (f : M RV) : M RV := bindM f fun r => match r with
  | .sh (.obj k) => pureM (.ob k)
  | r => pureM r
def selfP (cn : Str) : RV → M D
  | .ob k => fun ρ w => match w.st[k]? with
    | some (.ins c' _) => if c' = cn then some (.obj k, ρ, w) else none
    | _ => none
  | _ => failM
def propO (cn : Str) (den : List D → W → Option (RV × W)) (fo : M RV) : M RV := bindM fo fun r => bindM (selfP cn r) fun d => runD den [d]
/-- o.f = value -/
def putO (cn f : Str) (d : D) : RV → M Fl
  | .ob k => fun ρ w => match w.st[k]? with
    | some (.ins c' gs) => if c' = cn ∧ gs.length < 900 then some (.nx, ρ, { w with st := w.st.set k (.ins cn (putD f d gs)) }) else none
    | _ => none
  | _ => failM
def setfM (cn f : Str) (fo fe : M RV) : M Fl := bindM fe fun r => bindM (escR r) fun d => bindM fo fun r0 => putO cn f d r0
section
variable {c : Ct} {F : Fm} {O : List Addr} {ρ : Env} {w : W} {σ : L2.St} {H : Hp}
end
section
variable {X : Cx} {e o value : Expr} {pos pos' : Pos} {m f cn : Str} {k j n : Nat} {den : List D → W → Option (RV × W)} {fo fe : M RV}
end
end FD

end sec_FD50
section sec_FD51
set_option maxRecDepth 100000
set_option maxHeartbeats 5000000
/-! FD51: what slots own is lent to a call as objects of the store. -/
namespace FD
open PySem L2
variable [Tabl]
def ownsD (ρ : Env) : List Nat → Option (List D)
  | [] => some []
  | i :: is => match ρ[i]? with
    | some (some (.own d)) => (match ownsD ρ is with | some ds => some (d :: ds) | none => none)
    | _ => none
def setOwns (ρ : Env) : List Nat → List D → Env
  | i :: is, d :: ds => setOwns (ρ.set i (some (.own d))) is ds
  | _, _ => ρ
/-- the arguments, and the slots that are lent: the first one is the object n -/
def argD : Nat → List RV → List D × List Nat
  | _, [] => ([], [])
  | n, .ow i :: rs => (.obj n :: (argD (n + 1) rs).1, i :: (argD (n + 1) rs).2)
  | n, .sh d :: rs => (d :: (argD n rs).1, (argD n rs).2)
  | n, .fr d :: rs => (d :: (argD n rs).1, (argD n rs).2)
  | n, .ob k :: rs => (.obj k :: (argD n rs).1, (argD n rs).2)
def czR (n : Nat) : RV → Bool
  | .sh d => cz n d
  | .fr d => cz n d
  | _ => false
def runL (den : List D → W → Option (RV × W)) (ds : List D) (js : List Nat) : M RV := fun ρ w => match ownsD ρ js with
  | some es => (match den ds { w with st := w.st ++ es } with
    | some (r, w') => if js.Nodup ∧ w'.st.length = w.st.length + es.length ∧ czR w.st.length r = true ∧ czs w.st.length w'.st = true then some (r, setOwns ρ js (w'.st.drop w.st.length), { w' with st := w'.st.take w.st.length }) else none
    | none => none)
  | none => none
def callL (den : List D → W → Option (RV × W)) (dd : List D) (fa : M (List RV)) : M RV := bindM fa fun rs => fun ρ w => runL den ((argD w.st.length rs).1 ++ dd) (argD w.st.length rs).2 ρ w
/-- the receiver: a thing of a slot's own -/
def selfL (cn : Str) (m : Option Str) : RV → M Unit
  | .ow i => fun ρ w => match ρ[i]? with
    | some (some (.own (.ins c' gs))) => if c' = cn ∧ (m.all fun x => (gs.lookup x).isNone) = true then some ((), ρ, w) else none
    | _ => none
  | _ => failM
def methL (cn m : Str) (den : List D → W → Option (RV × W)) (dd : List D) (fo : M RV) (fa : M (List RV)) : M RV :=
  bindM fo fun r => bindM (selfL cn (some m) r) fun _ => bindM fa fun rs => fun ρ w => runL den ((argD w.st.length (r :: rs)).1 ++ dd) (argD w.st.length (r :: rs)).2 ρ w
def propL (cn : Str) (den : List D → W → Option (RV × W)) (fo : M RV) : M RV :=
  bindM fo fun r => bindM (selfL cn none r) fun _ => fun ρ w => runL den (argD w.st.length [r]).1 (argD w.st.length [r]).2 ρ w

theorem ownsD_get {ρ : Env} : ∀ {js : List Nat} {es : List D}, ownsD ρ js = some es → es.length = js.length ∧ ∀ (t : Nat) i, js[t]? = some i → ∃ d, es[t]? = some d ∧ ρ[i]? = some (some (Slot.own d))
  | [], _, h => by
    cases h
    exact ⟨rfl, fun t i z => by simp at z⟩
  | j :: js, es, h => by
    unfold ownsD at h
    split at h
    · rename_i d e
      split at h
      · rename_i ds e2
        cases h
        obtain ⟨l, g⟩ := ownsD_get e2
        refine ⟨by simp [l], fun t i z => ?_⟩
        cases t with
        | zero =>
          have z : j = i := by simpa using z
          subst z
          exact ⟨d, rfl, e⟩
        | succ t => exact g t i (by simpa using z)
      · cases h
    · cases h
theorem setOwns_get : ∀ {js : List Nat} {es : List D} {ρ : Env} {i : Nat} {s : Slot}, es.length = js.length → (setOwns ρ js es)[i]? = some (some s) → (∃ (t : Nat) (d : D), js[t]? = some i ∧ es[t]? = some d ∧ s = .own d) ∨ (i ∉ js ∧ ρ[i]? = some (some s))
  | [], _, ρ, i, s, _, h => .inr ⟨List.not_mem_nil, h⟩
  | _ :: _, [], ρ, i, s, l, h => by simp at l
  | j :: js, e :: es, ρ, i, s, l, h => by
    rcases setOwns_get (by simpa using l) (show (setOwns (ρ.set j (some (.own e))) js es)[i]? = some (some s) from h) with ⟨t, d, h1, h2, h3⟩ | ⟨n, h⟩
    · exact .inl ⟨t + 1, d, by simpa using h1, by simpa using h2, h3⟩
    · rcases getElem?_set_some h with ⟨rfl, z⟩ | ⟨n2, h⟩
      · exact .inl ⟨0, e, rfl, rfl, by simpa using z.symm⟩
      · exact .inr ⟨fun z => (List.mem_cons.mp z).elim (fun y => n2 y.symm) n, h⟩
theorem setOwns_len : ∀ {js : List Nat} {es : List D} {ρ : Env}, (setOwns ρ js es).length = ρ.length
  | [], _, ρ => rfl
  | _ :: _, [], ρ => rfl
  | j :: js, e :: es, ρ => by
    show (setOwns (ρ.set j (some (.own e))) js es).length = ρ.length
    rw [setOwns_len, List.length_set]
theorem czs_get {n : Nat} : ∀ {ds : List D} {k : Nat} {d : D}, czs n ds = true → ds[k]? = some d → cz n d = true
  | [], _, _, _, h => by simp at h
  | e :: ds, 0, d, l, h => by
    simp only [czs, Bool.and_eq_true] at l
    have h : e = d := by simpa using h
    exact h ▸ l.1
  | e :: ds, k + 1, d, l, h => by
    simp only [czs, Bool.and_eq_true] at l
    exact czs_get l.2 (by simpa using h)
/-- where the slots' own things stand -/
def adr (σ : L2.St) (i : Nat) : Addr := match σ[i]? with
  | some (some (.ref a)) => a
  | _ => 0
theorem adr_of {σ : L2.St} {i : Nat} {a : Addr} (h : σ[i]? = some (some (.ref a))) : adr σ i = a := by
  unfold adr
  rw [h]
def Dr.lend (d : Dr) (as : List Addr) : Dr := { d with ob := d.ob ++ as }
section
variable {c : Ct} {F : Fm} {O : List Addr} {ρ : Env} {w : W} {σ : L2.St} {H : Hp} {js : List Nat} {es : List D}
theorem lend_as (d : Dr) (as : List Addr) (b : Addr) : b ∈ (d.lend as).as ↔ b ∈ d.as ∨ b ∈ as := by
  unfold Dr.lend Dr.as Dr.ds
  simp [or_assoc]
/-- the facts of what is lent -/
structure Lend (c : Ct) (F : Fm) (O : List Addr) (ρ : Env) (w : W) (σ : L2.St) (H : Hp) (js : List Nat) (es : List D) (as : List Addr) : Prop where
  lj : as.length = js.length
  le : es.length = js.length
  at_ : ∀ (t : Nat) i, js[t]? = some i → ∃ a d o, as[t]? = some a ∧ es[t]? = some d ∧ ρ[i]? = some (some (Slot.own d)) ∧ σ[i]? = some (some (V.ref a)) ∧ a ∈ O ∧ a ∉ F.O0 ∧ H a = some o ∧ Obj c F.dr.da (vis O H) o d
  nd : as.Nodup
theorem lend_of (S : SR c F O ρ w σ H) (h : ownsD ρ js = some es) (nd : js.Nodup) : Lend c F O ρ w σ H js es (js.map (adr σ)) := by
  obtain ⟨l, g⟩ := ownsD_get h
  have at_ : ∀ (t : Nat) i, js[t]? = some i → ∃ a d o, (js.map (adr σ))[t]? = some a ∧ es[t]? = some d ∧ ρ[i]? = some (some (Slot.own d)) ∧ σ[i]? = some (some (V.ref a)) ∧ a ∈ O ∧ a ∉ F.O0 ∧ H a = some o ∧ Obj c F.dr.da (vis O H) o d := fun t i q => by
    obtain ⟨d, e1, e2⟩ := g t i q
    obtain ⟨a, o, h1, h2, h3, h4, h5⟩ := S.own i d e2
    exact ⟨a, d, o, by rw [List.getElem?_map, q, Option.map_some, adr_of h1], e1, e2, h1, h2, h3, h4, h5⟩
  refine ⟨List.length_map _, l, at_, ?_⟩
  rw [List.nodup_iff_pairwise_ne, List.pairwise_map]
  refine List.Pairwise.imp_of_mem (fun {i j} hi hj ne z => ?_) (List.nodup_iff_pairwise_ne.mp nd)
  obtain ⟨t, ht⟩ := List.getElem?_of_mem hi
  obtain ⟨u, hu⟩ := List.getElem?_of_mem hj
  obtain ⟨a, d, o, _, _, e1, e2, _⟩ := at_ t i ht
  obtain ⟨a', d', o', _, _, e1', e2', _⟩ := at_ u j hu
  rw [adr_of e2, adr_of e2'] at z
  subst z
  exact ne (S.uni i j d d' a e1 e1' e2 e2')
variable {as : List Addr}
theorem Lend.mem (L : Lend c F O ρ w σ H js es as) {a : Addr} (h : a ∈ as) : a ∈ O ∧ a ∉ F.O0 ∧ (∃ o, H a = some o) ∧ ∃ (i : Nat) (d : D), i ∈ js ∧ ρ[i]? = some (some (Slot.own d)) ∧ σ[i]? = some (some (V.ref a)) := by
  obtain ⟨t, ht⟩ := List.getElem?_of_mem h
  have hl : t < js.length := by rw [← L.lj]; exact (List.getElem?_eq_some_iff.mp ht).1
  obtain ⟨a', d, o, h1, h2, h3, h4, h5, h6, h7, _⟩ := L.at_ t js[t] (List.getElem?_eq_getElem hl)
  rw [ht] at h1
  cases h1
  exact ⟨h5, h6, ⟨o, h7⟩, js[t], d, List.getElem_mem hl, h3, h4⟩
theorem Lend.up (L : Lend c F O ρ w σ H js es as) : ∀ (k : Nat) a, F.dr.da.ob[k]? = some a → (F.dr.lend as).da.ob[k]? = some a := fun k a h => by
  show (F.dr.ob ++ as)[k]? = some a
  have h : F.dr.ob[k]? = some a := h
  rw [List.getElem?_append_left (List.getElem?_eq_some_iff.mp h).1]
  exact h
theorem Lend.ds (S : SR c F O ρ w σ H) (L : Lend c F O ρ w σ H js es as) : DS c (F.dr.lend as) { w with st := w.st ++ es } O H := by
  have ndr : ∀ a ∈ as, a ∉ F.dr.as := fun a h z => (L.mem h).2.1 (S.drs a z)
  refine ⟨⟨fun t q => S.draw.d.1 t q, S.draw.d.2⟩, ?_, ?_, fun a h => ?_, fun k a d h1 h2 => ?_⟩
  · show (F.dr.ob ++ as).length = (w.st ++ es).length
    rw [List.length_append, List.length_append, S.draw.s.len, L.lj, L.le]
  · show (F.dr.ob ++ as).Nodup
    rw [List.nodup_append]
    exact ⟨S.draw.s.nd, L.nd, fun a ha b hb z => ndr b hb (by rw [← z]; exact Dr.memo ha)⟩
  · rcases List.mem_append.mp (show a ∈ F.dr.ob ++ as from h) with h | h
    · exact S.draw.s.dj a h
    · have n := ndr a h
      exact ⟨fun z => n (List.mem_append_left _ z), fun z => n (List.mem_append_right _ (List.mem_append_left _ z))⟩
  · have h1 : (F.dr.ob ++ as)[k]? = some a := h1
    have h2 : (w.st ++ es)[k]? = some d := h2
    by_cases q : k < F.dr.ob.length
    · rw [List.getElem?_append_left q] at h1
      rw [List.getElem?_append_left (by rw [← S.draw.s.len]; exact q)] at h2
      obtain ⟨o, e1, e2⟩ := S.draw.s.is k a d h1 h2
      exact ⟨o, e1, e2.up L.up rfl rfl⟩
    · rw [List.getElem?_append_right (Nat.le_of_not_lt q)] at h1
      rw [List.getElem?_append_right (by rw [← S.draw.s.len]; exact Nat.le_of_not_lt q), ← S.draw.s.len] at h2
      have hl : k - F.dr.ob.length < js.length := by rw [← L.lj]; exact (List.getElem?_eq_some_iff.mp h1).1
      obtain ⟨a', d', o, g1, g2, _, _, _, _, g7, g8⟩ := L.at_ _ _ (List.getElem?_eq_getElem hl)
      rw [g1] at h1
      cases h1
      rw [g2] at h2
      cases h2
      exact ⟨o, g7, g8.up L.up rfl rfl⟩
theorem Lend.args (S : SR c F O ρ w σ H) (up : ∀ (k : Nat) a, F.dr.da.ob[k]? = some a → (F.dr.lend as).da.ob[k]? = some a) : ∀ {n : Nat} {rs : List RV} {vs : List V}, HoldAll c F O σ H rs vs → (∀ (t : Nat) i, (argD n rs).2[t]? = some i → ∃ a, (F.dr.lend as).ob[n + t]? = some a ∧ σ[i]? = some (some (V.ref a))) →
    RepAll c (F.dr.lend as).da (vis O H) vs (argD n rs).1
  | _, _, _, .nil, _ => .nil
  | n, .sh d :: rs, _, .cons h r, g => .cons (Rep.up up rfl rfl h) (Lend.args S up r g)
  | n, .fr d :: rs, _, .cons h r, g => .cons (Rep.up up rfl rfl h) (Lend.args S up r g)
  | n, .ob k :: rs, _, .cons h r, g => by
    obtain ⟨a, rfl, ha⟩ := h
    exact .cons (.obj (up _ _ ha)) (Lend.args S up r g)
  | n, .ow i :: rs, v :: _, .cons h r, g => by
    have h : σ[i]? = some (some v) := h
    obtain ⟨a, h1, h2⟩ := g 0 i rfl
    rw [h] at h2
    cases h2
    refine .cons (.obj h1) (Lend.args S up r fun t j q => ?_)
    obtain ⟨b, h3, h4⟩ := g (t + 1) j (by simpa [argD] using q)
    exact ⟨b, by rw [← h3]; congr 1; omega, h4⟩
/-- behind the call -/
theorem Lend.back {w' : W} {O' : List Addr} {H' : Hp} (S : SR c F O ρ w σ H) (L : Lend c F O ρ w σ H js es as) (k : Kp (F.dr.lend as) H H') (hw : DS c (F.dr.lend as) w' O' H') (hl : w'.st.length = w.st.length + es.length) (hc : czs w.st.length w'.st = true)
    (sub : ∀ b ∈ O, b ∈ O') (nw : ∀ b ∈ O', b ∉ O → H b = none ∧ ∃ o, H' b = some o ∧ NT o) :
    SR c F O' (setOwns ρ js (w'.st.drop w.st.length)) { w' with st := w'.st.take w.st.length } σ H' ∧ Ex (vis O H) (vis O' H') := by
  have asO : ∀ a ∈ as, a ∈ O := fun a h => (L.mem h).1
  have asF : ∀ a ∈ as, a ∉ F.O0 := fun a h => (L.mem h).2.1
  have lO : ∀ a ∈ (F.dr.lend as).as, a ∈ O := fun a h => by
    rcases (lend_as _ _ a).mp h with h | h
    · exact S.drO a h
    · exact asO a h
  have x : Ex (vis O H) (vis O' H') := fun b o h => by
    obtain ⟨n, q⟩ := vis_some h
    rw [vis_out fun z => ?_]
    · exact k b o q fun z => n (lO b z)
    · obtain ⟨z1, _⟩ := nw b z n
      rw [z1] at q
      cases q
  have down : ∀ (k : Nat), k < w.st.length → F.dr.da.ob[k]? = (F.dr.lend as).da.ob[k]? := fun k h => by
    show F.dr.ob[k]? = (F.dr.ob ++ as)[k]?
    rw [List.getElem?_append_left (by rw [S.draw.s.len]; exact h)]
  have ld : (w'.st.drop w.st.length).length = js.length := by rw [List.length_drop, hl, L.le]; omega
  have old : ∀ {i : Nat} {d : D}, (setOwns ρ js (w'.st.drop w.st.length))[i]? = some (some (Slot.own d)) → ∃ d0, ρ[i]? = some (some (Slot.own d0)) := fun {i d} h => by
    rcases setOwns_get ld h with ⟨t, d', h1, _, _⟩ | ⟨_, h⟩
    · obtain ⟨_, d0, _, _, _, e, _⟩ := L.at_ t i h1
      exact ⟨d0, e⟩
    · exact ⟨d, h⟩
  refine ⟨⟨by rw [setOwns_len]; exact S.len, fun b o h n => ?_, fun b h n => ?_, fun b h => sub b (S.sub b h), S.drs, fun b h => ?_, ⟨⟨fun t q => hw.d.1 t q, hw.d.2⟩, ?_, S.draw.s.nd, S.draw.s.dj, fun i b d h1 h2 => ?_⟩, fun i d h => ?_, fun i d h => ?_, fun i j d d' a h h' q q' => ?_⟩, x⟩
  · refine k b o (S.base b o h n) fun z => ?_
    rcases (lend_as _ _ b).mp z with z | z
    · exact n z
    · rw [S.new b (asO b z) (asF b z)] at h
      cases h
  · by_cases q : b ∈ O
    · exact S.new b q n
    · cases z : F.H0 b with
      | none => rfl
      | some u =>
        have y := S.base b u z fun y => n (S.drs b y)
        rw [(nw b h q).1] at y
        cases y
  · by_cases q : b ∈ O
    · by_cases z : b ∈ (F.dr.lend as).as
      · exact hw.mem z
      · obtain ⟨o, e, nt⟩ := S.trk b q
        exact ⟨o, k _ _ e z, nt⟩
    · exact (nw b h q).2
  · show F.dr.ob.length = (w'.st.take w.st.length).length
    rw [List.length_take, hl, S.draw.s.len]
    omega
  · have h2 : (w'.st.take w.st.length)[i]? = some d := h2
    have hi : i < w.st.length := by rw [← S.draw.s.len]; exact (List.getElem?_eq_some_iff.mp h1).1
    rw [List.getElem?_take_of_lt hi] at h2
    obtain ⟨o, e1, e2⟩ := hw.s.is i b d (by show (F.dr.ob ++ as)[i]? = some b; rw [List.getElem?_append_left (by rw [S.draw.s.len]; exact hi)]; exact h1) h2
    exact ⟨o, e1, e2.down down rfl rfl (czs_get hc h2)⟩
  · rcases setOwns_get ld h with ⟨t, d', _, _, z⟩ | ⟨_, h⟩
    · cases z
    · obtain ⟨v, h1, h2⟩ := S.val i d h
      exact ⟨v, h1, h2.mono x⟩
  · rcases setOwns_get ld h with ⟨t, d', h1, h2, z⟩ | ⟨q, h⟩
    · cases z
      obtain ⟨a, d0, o0, g1, g2, g3, g4, g5, g6, g7, g8⟩ := L.at_ t i h1
      rw [List.getElem?_drop] at h2
      obtain ⟨o, e1, e2⟩ := hw.s.is (w.st.length + t) a d (by show (F.dr.ob ++ as)[w.st.length + t]? = some a; rw [← S.draw.s.len, List.getElem?_append_right (Nat.le_add_right _ _), Nat.add_sub_cancel_left]; exact g1) h2
      exact ⟨a, o, g4, sub a g5, g6, e1, e2.down down rfl rfl (czs_get hc h2)⟩
    · obtain ⟨a, o, g1, g2, g3, g4, g5⟩ := S.own i d h
      refine ⟨a, o, g1, sub a g2, g3, k a o g4 fun z => ?_, g5.mono x⟩
      rcases (lend_as _ _ a).mp z with z | z
      · exact g3 (S.drs a z)
      · obtain ⟨_, _, _, i', d', hi', p1, p2⟩ := L.mem z
        exact q (by rw [S.uni i i' d d' a h p1 g1 p2]; exact hi')
  · obtain ⟨d0, e0⟩ := old h
    obtain ⟨d1, e1⟩ := old h'
    exact S.uni i j d0 d1 a e0 e1 q q'
end
section
variable {X : Cx} {e o : Expr} {es : List Expr} {pos p apos : Pos} {x m cn : Str} {k j n : Nat} {dd : List D} {den : List D → W → Option (RV × W)} {fa : M (List RV)} {fo : M RV}
end
end FD

end sec_FD51
section sec_FD52
set_option maxRecDepth 100000
set_option maxHeartbeats 5000000
/-! FD52: own things lent to defs that ask for repr, and to methods called by names. -/
namespace FD
open PySem L2
variable [Tabl]
section
variable {X : Cx} {e o : Expr} {es : List Expr} {kws : List Keyword} {pos p apos kpos : Pos} {x m cn : Str} {k j n : Nat} {ks : List Str} {den : List D → W → Option (RV × W)} {fa : M (List RV)} {fo : M RV}
end
end FD

end sec_FD52
section sec_FD46
set_option maxRecDepth 100000
set_option maxHeartbeats 400000
/-! FD46: f(k = e, ..), every parameter by its name, in any order. -/
namespace FD
open PySem L2
variable [Tabl]
/-- what stands at some places -/
def pickL {α : Type} (ix : List Nat) (l : List α) : List α := ix.filterMap fun i => l[i]?
theorem pickL_cons {α : Type} {i : Nat} {ix : List Nat} {l : List α} : pickL (i :: ix) l = (match l[i]? with
    | some x => x :: pickL ix l
    | none => pickL ix l) := by
  unfold pickL
  rw [List.filterMap_cons]
  cases l[i]? <;> rfl
theorem pick_len {α : Type} {l : List α} : ∀ {ix : List Nat}, (∀ i ∈ ix, i < l.length) → (pickL ix l).length = ix.length
  | [], _ => rfl
  | i :: ix, h => by
    have hi := h i List.mem_cons_self
    rw [pickL_cons, List.getElem?_eq_getElem hi]
    simp [pick_len (ix := ix) fun j hj => h j (List.mem_cons_of_mem _ hj)]
theorem vals_at : ∀ {vs : List V} {us : List Value}, Vals vs us → ∀ i : Nat, (vs[i]? = none ∧ us[i]? = none) ∨ ∃ v u, vs[i]? = some v ∧ us[i]? = some u ∧ RelV v u
  | _, _, .nil, i => .inl ⟨by simp, by simp⟩
  | _, _, .cons (a := v) (b := u) r _, 0 => .inr ⟨_, _, rfl, rfl, r⟩
  | _, _, .cons _ t, i + 1 => by simpa using vals_at t i
theorem vals_pickL {vs : List V} {us : List Value} (h : Vals vs us) : ∀ ix : List Nat, Vals (pickL ix vs) (pickL ix us)
  | [] => .nil
  | i :: ix => by
    rw [pickL_cons, pickL_cons]
    rcases vals_at h i with ⟨a, b⟩ | ⟨v, u, a, b, r⟩
    · rw [a, b]
      exact vals_pickL h ix
    · rw [a, b]
      exact .cons r (vals_pickL h ix)
theorem RepAll.pickL {c : Ct} {da : DA} {G : Hp} {vs : List V} {ds : List D} (h : RepAll c da G vs ds) : ∀ ix : List Nat, RepAll c da G (pickL ix vs) (pickL ix ds)
  | [] => .nil
  | i :: ix => by
    rw [pickL_cons, pickL_cons]
    cases q : ds[i]? with
    | some d =>
      obtain ⟨v, e, r⟩ := h.get q
      rw [e]
      exact .cons r (h.pickL ix)
    | none =>
      have e : vs[i]? = none := by
        rw [List.getElem?_eq_none_iff] at q ⊢
        rw [h.length]
        exact q
      rw [e]
      exact h.pickL ix
/-- a function whose parameters are given by name: the words in the order of the call, ix: where each parameter stands there -/
structure CkwD (P : Program) (w : World) (K : PySem.W.Frag) (mg : Str → Option Value) (base : Heap) (k : Nat) (x : Str) (n : Nat) (ks : List Str) (ix : List Nat) (den : List D → W → Option (RV × W)) : Prop where
  ex : ∃ (f : Addr) (fd : FuncData) (ps : List Str), mg x = some (.ref f) ∧ PySem.W.keepIn K (.ref f) = true ∧ FnOk P w K mg base CX0 k f fd ps (spD ⟨K, mg⟩ n den) ∧
    ∀ (s : Shared) (ws : List Value), K.In s.heap → ws.length = ks.length → BindsTo s fd ⟨[], ks.zip ws⟩ (ps.zip (pickL ix ws))
section
variable {X : Cx} {kws : List Keyword} {pos p : Pos} {x : Str} {k j n : Nat} {ks : List Str} {ix : List Nat} {den : List D → W → Option (RV × W)} {fa : M (List RV)}
/-- the words of a call -/
def KwsAre (X : Cx) (pos : Pos) (kws : List Keyword) (ks : List Str) : Prop :=
  ((backToKw pos (keywordEach kws X.env)).all fun z => z.1.isSome) = true ∧ (backToKw pos (keywordEach kws X.env)).filterMap (fun z => z.1) = ks ∧
    (((backTo pos (starEach [] X.env)).any fun z => z.1) || (backToKw pos (keywordEach kws X.env)).any fun z => z.1.isNone) = false
end
end FD

end sec_FD46
section sec_FD53
set_option maxRecDepth 100000
set_option maxHeartbeats 2000000
/-! FD53: C(..) and C(k = e, ..) as things that can be owned. -/
namespace FD
open PySem L2
variable [Tabl]
def makFM (cn : Str) (den : List D → W → Option (List (Str × D) × W)) (dd : List D) (fa : M (List RV)) : M RV := bindM fa fun rs => bindM (escAll rs) fun ds => fun ρ w => match den (ds ++ dd) w with
  | some (gs, w') => some (.fr (.ins cn gs), ρ, w')
  | none => none
def makKM (cn : Str) (ix : List Nat) (den : List D → W → Option (List (Str × D) × W)) (fa : M (List RV)) : M RV := bindM fa fun rs => bindM (escAll rs) fun ds => fun ρ w => match den (pickL ix ds) w with
  | some (gs, w') => some (.fr (.ins cn gs), ρ, w')
  | none => none
/-- what is new and never changed -/
def shM (f : M RV) : M RV := bindM f fun r => bindM (escR r) fun d => pureM (.sh d)
/-- a class whose __init__ gets its parameters by name -/
structure MkkD (P : Program) (w : World) (K : PySem.W.Frag) (mg : Str → Option Value) (base : Heap) (k : Nat) (cn : Str) (n : Nat) (ks : List Str) (ix : List Nat) (den : List D → W → Option (List (Str × D) × W)) : Prop where
  ex : ∃ (C f : Addr) (fd : FuncData) (ps : List Str), Mk K C f ∧ FnOk P w K mg base CX0 k f fd ps (spI ⟨K, mg⟩ n cn den) ∧ mg cn = some (.ref C) ∧
    ∀ (s : Shared) (self : Value) (ws : List Value), K.In s.heap → ws.length = ks.length → BindsTo s fd ⟨[self], ks.zip ws⟩ (ps.zip (self :: pickL ix ws))
section
variable {c : Ct} {F : Fm} {O : List Addr} {ρ : Env} {w w' : W} {σ : L2.St} {H : Hp}
/-- the new object and its dict are there; __init__ makes its attributes -/
theorem make_sp {n : Nat} {cn : Str} {C : Addr} {den : List D → W → Option (List (Str × D) × W)} {vs : List V} {ds : List D} {gs : List (Str × D)} {Q : VK} {E : XK} (S : SR c F O ρ w σ H) (hm : c.mg cn = some (.ref C)) (r : RepAll c F.dr.da (vis O H) vs ds) (hn : ds.length + 1 = n)
    (hd : den ds w = some (gs, w')) {y dx : Addr} (ny : H y = none) (ndx : H dx = none) (ne : dx ≠ y)
    (k : ∀ H', SR c F O ρ w' σ H' → Ex (vis O H) (vis O H') → RepR c F (vis O H) O ρ w' σ H' (.fr (.ins cn gs)) (.ref y) → Q (.ref y) H') :
    spI c n cn den (.ref y :: vs) (upd (upd H dx (.own y)) y (.ins C dx [])) (fun v H2 => v = .non ∧ Q (.ref y) H2) E := by
  have nO : y ∉ O := fun z => by
    obtain ⟨o, q, _⟩ := S.trk y z
    rw [ny] at q
    cases q
  have x3 : Ex H (upd (upd H dx (.own y)) y (.ins C dx [])) := fun a o h => by
    rw [upd_ne (ne_of_none h ny), upd_ne (ne_of_none h ndx)]
    exact h
  have xh : Ex (vis O H) (vis (y :: O) (upd (upd H dx (.own y)) y (.ins C dx []))) := fun a o h => by
    obtain ⟨n, h⟩ := vis_some h
    rw [vis_out fun z => ?_]
    · exact x3 a o h
    · rcases List.mem_cons.mp z with z | z
      · exact ne_of_none h ny z
      · exact n z
  refine ⟨y, C, dx, vs, F.dr, O, _, ds, gs, _, rfl, hm, upd_same, nO, S.drO, fun b hb => ?_, S.draw.to x3 xh, r.mono xh, hn, hd, fun H' dx' fs kp hw ha rf => ⟨rfl, ?_⟩⟩
  · obtain ⟨o, q, nt⟩ := S.trk b hb
    exact ⟨o, x3 _ _ q, nt⟩
  · have kp' : Kp F.dr H H' := fun b o hb nd => kp b o (x3 b o hb) (ne_of_none hb ny) nd
    exact k H' (S.kept kp' hw.pop) (vis_kp S.drO kp') (RepN.outK (r := .fr (.ins cn gs)) S kp' hw ⟨y, _, rfl, ny, ha, .inr (.inr (.inr ⟨C, dx', fs, cn, gs, rfl, rfl, hm, rf⟩))⟩)
end
section
variable {X : Cx} {e o : Expr} {es : List Expr} {kws : List Keyword} {pos p : Pos} {cn : Str} {k j n : Nat} {dd : List D} {ks : List Str} {ix : List Nat} {fa : M (List RV)} {fe : M RV}
theorem fe_sh (he : FE X e fe) : FE X e (shM fe) := fun F => ⟨fun pins s σ H Q I q => by
  obtain ⟨O, ρ, w, r, ρ', w', S, ey, kk⟩ := q
  refine (he F).run pins s σ H Q I (tE_then S ey fun v O1 ρ1 w1 H1 r1 S1 e1 R1 h1 => ?_)
  obtain ⟨d, ρ2, w2, h2, h3⟩ := bindM_some h1
  obtain ⟨rfl, O2, S2, k2, r2⟩ := escR_ok S1 R1.hold h2
  cases h3
  exact kk v O2 H1 S2 (e1.trans k2) r2⟩
theorem fe_makeK {den : List D → W → Option (List (Str × D) × W)} (cl : MkkD X.prog X.w X.K X.mg X.base k cn n ks ix den) (hr : Room j X.A) (hg : Gl X cn) (ha : FK X kws fa) (hk : k + 1 ≤ j := by decide) (hl : kws.length = ks.length := by rfl) (hi : ∀ i ∈ ix, i < kws.length := by decide) (hn : ix.length + 1 = n := by rfl)
    (hdb : NotDebug cn := by decide) (hw : KwsAre X pos kws ks := by exact ⟨rfl, rfl, rfl⟩) : FE X (.Call (.Name cn p) [] kws pos) (makKM cn ix den fa) := fun F => ⟨fun pins s σ H Q I q => by
  obtain ⟨C, f, fd, ps, M, FO, hm, bd⟩ := cl.ex
  obtain ⟨hall, hks, hpl⟩ := hw
  obtain ⟨O, ρ, w, r, ρ', w', S, ey, kk⟩ := q
  have t0 : tA (ct X) F fa σ H fun vs H1 => vs.length = ks.length ∧ ∀ y dx, H1 y = none → H1 dx = none → dx ≠ y → spI (ct X) n cn den (.ref y :: pickL ix vs) (upd (upd H1 dx (.own y)) y (.ins C dx [])) (fun v H2 => v = .non ∧ Q (.ref y) H2) E0 := by
    refine tA_then S ey fun vs O1 ρ1 w1 H1 rs S1 e1 R1 f1 h1 => ?_
    obtain ⟨ds1, ρ2, w2, h2, h3⟩ := bindM_some h1
    obtain ⟨rfl, O2, S2, k2, r2⟩ := escAll_ok S1 R1 h2
    have lv : vs.length = kws.length := by rw [← R1.length, ha.len _ _ _ _ _ f1]
    split at h3
    · rename_i gs w3 h4
      cases h3
      refine ⟨lv.trans hl, fun y dx ny ndx ne => ?_⟩
      refine make_sp S2 hm (r2.pickL ix) ?_ h4 ny ndx ne fun H' S3 x3 R3 => kk _ O2 H' S3 ((e1.trans k2).trans x3) (R3.less (e1.trans k2))
      rw [pick_len fun i h => by rw [r2.len2, lv]; exact hi i h]
      exact hn
    · cases h3
  have kb : KBn X.K fd ps (0 + 1) ks (fun us ws => us ++ pickL ix ws) (fun vs zs => vs ++ pickL ix zs) := ⟨fun s us ws X1 l1 l2 => by
    match us, l1 with
    | [u], _ => exact bd s u ws X1 l2, fun r rz => r.append (vals_pickL rz ix)⟩
  refine wpAny_Call_Name_kw (ld_glob I hg hm (PySem.W.callWith_KW0 (h₀ := X.base) I.ok.mod.kin M.kp hall (thn ((ha.run F).run pos pins s σ H _ I t0) fun ws s2 ⟨zs, H2, I2, rz, l1, q2⟩ => ⟨I2.kIn, ?_⟩) hpl) hdb)
  rw [hks]
  exact run_makeN (us := []) (vs := []) M FO (hr.mono hk) kb pass0 I2 .nil rz rfl l1 q2⟩
end
end FD

end sec_FD53
section sec_FD54
set_option maxRecDepth 100000
set_option maxHeartbeats 2000000
/-! FD54: a dict with a list of its own (that is appended to): the list is an object of the store for the rest of the def. -/
namespace FD
open PySem L2
variable [Tabl]
/-! ### d[text] -/
def kvD : List (D × D) → Str → Option D
  | [], _ => none
  | (.str x, d) :: r, k => if x = k then some d else kvD r k
  | (_, _) :: r, k => kvD r k
theorem RepKV.get {c : Ct} {da : DA} {G : Hp} {key : Str} : ∀ {kvs : List (Key × V)} {ps : List (D × D)}, RepKV c da G kvs ps → ∀ {d : D}, kvD ps key = some d → ∃ v, valV kvs (.inr key) = some v ∧ Rep c da G v d
  | _, _, .nil, _, h => by cases h
  | (.inl i, v) :: _, _, .cons a r, d, h => by
    obtain ⟨u, e, q⟩ := RepKV.get r (show kvD _ key = some d from h)
    refine ⟨u, ?_, q⟩
    rw [← e]
    simp [valV]
  | (.inr x, v) :: _, _, .cons a r, d, h => by
    have h : (if x = key then some _ else kvD _ key) = some d := h
    by_cases z : x = key
    · rw [if_pos z] at h
      cases h
      exact ⟨v, by simp [valV, z], a⟩
    · rw [if_neg z] at h
      obtain ⟨u, e, q⟩ := RepKV.get r h
      refine ⟨u, ?_, q⟩
      rw [← e]
      simp [valV, z]
section
variable {X : Cx} {o e : Expr} {pos p p1 p2 p3 pos' apos cpos : Pos} {j1 j2 k i : Nat} {fo fe : M RV} {x : Str}
/-! ### e.append(x) on an object of the store -/
def appO (d : D) : RV → M RV
  | .ob k => fun ρ w => match w.st[k]? with
    | some (.lst ds) => if ds.length < 1000000 then some (.sh .non, ρ, { w with st := w.st.set k (.lst (ds ++ [d])) }) else none
    | _ => none
  | _ => failM
def isLO (r : RV) : M Unit := fun ρ w => match r with
  | .ob k => (match w.st[k]? with | some (.lst _) => some ((), ρ, w) | _ => none)
  | _ => none
def appOM (fo fe : M RV) : M RV := bindM fo fun r => bindM (isLO r) fun _ => bindM fe fun r1 => bindM (escR r1) fun d => appO d r
end
/-! ### the object n stands for L -/
mutual
def sb (n : Nat) (L : D) : D → D
  | .tup ds => .tup (sbs n L ds)
  | .ktup ds => .ktup (sbs n L ds)
  | .lst ds => .lst (sbs n L ds)
  | .dic ps => .dic (sbp n L ps)
  | .dit ps => .dit (sbp n L ps)
  | .fdit ps => .fdit (sbp n L ps)
  | .ins c fs => .ins c (sbf n L fs)
  | .exc c fs => .exc c (sbf n L fs)
  | .lam i ds => .lam i (sbs n L ds)
  | .obj k => if k = n then L else .obj k
  | .non => .non
  | .bl b => .bl b
  | .int i => .int i
  | .str x => .str x
  | .ty t => .ty t
  | .draw => .draw
  | .scr ns => .scr ns
  | .tok k => .tok k
def sbs (n : Nat) (L : D) : List D → List D
  | [] => []
  | d :: r => sb n L d :: sbs n L r
def sbp (n : Nat) (L : D) : List (D × D) → List (D × D)
  | [] => []
  | (k, d) :: r => (k, sb n L d) :: sbp n L r
def sbf (n : Nat) (L : D) : List (Str × D) → List (Str × D)
  | [] => []
  | (k, d) :: r => (k, sb n L d) :: sbf n L r
end
section
variable {c : Ct} {da da' : DA} {G G' : Hp} {n : Nat} {L : D} {b : Addr}
/-- what G holds with the object n at b, G' holds with L there -/
structure Sb (c : Ct) (da da' : DA) (G G' : Hp) (n : Nat) (L : D) (b : Addr) : Prop where
  ob : ∀ (k : Nat) a, da'.ob[k]? = some a → (k = n ∧ a = b) ∨ (k ≠ n ∧ da.ob[k]? = some a)
  d : da.d = da'.d
  t : da.tok = da'.tok
  x : Ex G G'
  r : Rep c da G' (.ref b) L
mutual
theorem Rep.sb (s : Sb c da da' G G' n L b) : ∀ {v : V} {d : D}, Rep c da' G v d → Rep c da G' v (FD.sb n L d)
  | _, _, .non => .non
  | _, _, .bl b => .bl b
  | _, _, .int i => .int i
  | _, _, .str x => .str x
  | _, _, .ty n => .ty n
  | _, _, .draw e => .draw (s.d.trans e)
  | _, _, .obj (k := k) e => by
    rcases s.ob _ _ e with ⟨z, rfl⟩ | ⟨z, q⟩
    · show Rep c da G' _ (if k = n then L else .obj k)
      rw [if_pos z]
      exact s.r
    · show Rep c da G' _ (if k = n then L else .obj k)
      rw [if_neg z]
      exact .obj q
  | _, _, .tok e => .tok (by rw [s.t]; exact e)
  | _, _, .tup e r => .tup (s.x _ _ e) (RepAll.sb s r)
  | _, _, .ktup e r => .ktup (s.x.st e) (RepAll.sb s r)
  | _, _, .lst e r => .lst (s.x _ _ e) (RepAll.sb s r)
  | _, _, .scr e => .scr (s.x.sl e)
  | _, _, .dK e r => .dK (s.x _ _ e) (RepKV.sb s r)
  | _, _, .dT e r => .dT (s.x _ _ e) (RepKT.sb s r)
  | _, _, .fdT e r => .fdT (s.x _ _ e) (RepKT.sb s r)
  | _, _, .exc e e2 m r => .exc (s.x _ _ e) (s.x _ _ e2) m (RepF.sb s r)
  | _, _, .exo e m => .exo (s.x _ _ e) m
  | _, _, .exn e m => .exn (s.x _ _ e) m
  | _, _, .ins e m r => .ins (s.x _ _ e) m (RepF.sb s r)
  | _, _, .lam t e e2 k r => .lam t (s.x _ _ e) (s.x _ _ e2) (k.mono s.x) (RepAll.sb s r)
theorem RepAll.sb (s : Sb c da da' G G' n L b) : ∀ {v : List V} {d : List D}, RepAll c da' G v d → RepAll c da G' v (sbs n L d)
  | _, _, .nil => .nil
  | _, _, .cons a r => .cons (Rep.sb s a) (RepAll.sb s r)
theorem RepKV.sb (s : Sb c da da' G G' n L b) : ∀ {v : List (Key × V)} {d : List (D × D)}, RepKV c da' G v d → RepKV c da G' v (sbp n L d)
  | _, _, .nil => .nil
  | _, _, .cons a r => .cons (Rep.sb s a) (RepKV.sb s r)
theorem RepKT.sb (s : Sb c da da' G G' n L b) : ∀ {v : List (List Key × V)} {d : List (D × D)}, RepKT c da' G v d → RepKT c da G' v (sbp n L d)
  | _, _, .nil => .nil
  | _, _, .cons a r => .cons (Rep.sb s a) (RepKT.sb s r)
theorem RepF.sb (s : Sb c da da' G G' n L b) : ∀ {v : List (Str × V)} {d : List (Str × D)}, RepF c da' G v d → RepF c da G' v (sbf n L d)
  | _, _, .nil => .nil
  | _, _, .cons a r => .cons (Rep.sb s a) (RepF.sb s r)
end
theorem Obj.sb (s : Sb c da da' G G' n L b) {o : HO} {d : D} (q : Obj c da' G o d) : Obj c da G' o (FD.sb n L d) := by
  rcases q with ⟨xs, ds, h1, rfl, r⟩ | ⟨kvs, ps, h1, rfl, r⟩ | ⟨kvs, ps, h1, rfl, r⟩ | ⟨C, dx, fs, cn, gs, h1, rfl, h3, r⟩
  · exact .inl ⟨xs, _, h1, rfl, r.sb s⟩
  · exact .inr (.inl ⟨kvs, _, h1, rfl, r.sb s⟩)
  · exact .inr (.inr (.inl ⟨kvs, _, h1, rfl, r.sb s⟩))
  · exact .inr (.inr (.inr ⟨C, dx, fs, cn, _, h1, rfl, h3, r.sb s⟩))
end
/-- one more object of the store, in a frame of its own -/
def Fm.push (F : Fm) (b : Addr) : Fm := ⟨F.dr.lend [b], b :: F.O0, F.H0⟩
section
variable {c : Ct} {F : Fm} {O : List Addr} {ρ : Env} {w : W} {σ : L2.St} {H : Hp} {b : Addr} {o : HO} {d : D}
theorem push_up : ∀ (k : Nat) a, F.dr.da.ob[k]? = some a → (F.push b).dr.da.ob[k]? = some a := fun k a h => by
  have h : F.dr.ob[k]? = some a := h
  show (F.dr.ob ++ [b])[k]? = some a
  rw [List.getElem?_append_left (List.getElem?_eq_some_iff.mp h).1]
  exact h
theorem SR.push (S : SR c F O ρ w σ H) (hb : b ∈ O) (h0 : b ∉ F.O0) (nu : ∀ (j : Nat) e, ρ[j]? = some (some (Slot.own e)) → σ[j]? ≠ some (some (V.ref b))) (e : H b = some o) (ob : Obj c F.dr.da (vis O H) o d) :
    SR c (F.push b) O ρ { w with st := w.st ++ [d] } σ H where
  len := S.len
  base := fun a u h n => S.base a u h fun z => n ((lend_as _ _ a).mpr (.inl z))
  new := fun a h n => S.new a h fun z => n (List.mem_cons_of_mem _ z)
  sub := fun a h => by
    rcases List.mem_cons.mp h with z | z
    · rw [z]
      exact hb
    · exact S.sub a z
  drs := fun a h => by
    rcases (lend_as _ _ a).mp h with z | z
    · exact List.mem_cons_of_mem _ (S.drs a z)
    · rw [List.mem_singleton.mp z]
      exact List.mem_cons_self
  trk := S.trk
  draw := by
    have nas : b ∉ F.dr.as := fun z => h0 (S.drs b z)
    refine ⟨⟨fun t q => S.draw.d.1 t q, S.draw.d.2⟩, ?_, ?_, fun a h => ?_, fun k a d' h1 h2 => ?_⟩
    · show (F.dr.ob ++ [b]).length = (w.st ++ [d]).length
      rw [List.length_append, List.length_append, S.draw.s.len]
      rfl
    · show (F.dr.ob ++ [b]).Nodup
      rw [List.nodup_append]
      exact ⟨S.draw.s.nd, by simp, fun a ha a' hb z => nas (by rw [← List.mem_singleton.mp hb, ← z]; exact Dr.memo ha)⟩
    · rcases List.mem_append.mp (show a ∈ F.dr.ob ++ [b] from h) with h | h
      · exact S.draw.s.dj a h
      · rw [List.mem_singleton.mp h]
        exact ⟨fun z => nas (List.mem_append_left _ z), fun z => nas (List.mem_append_right _ (List.mem_append_left _ z))⟩
    · have h1 : (F.dr.ob ++ [b])[k]? = some a := h1
      have h2 : (w.st ++ [d])[k]? = some d' := h2
      by_cases q : k < F.dr.ob.length
      · rw [List.getElem?_append_left q] at h1
        rw [List.getElem?_append_left (by rw [← S.draw.s.len]; exact q)] at h2
        obtain ⟨u, e1, e2⟩ := S.draw.s.is k a d' h1 h2
        exact ⟨u, e1, e2.up push_up rfl rfl⟩
      · rw [List.getElem?_append_right (Nat.le_of_not_lt q)] at h1
        rw [List.getElem?_append_right (by rw [← S.draw.s.len]; exact Nat.le_of_not_lt q), ← S.draw.s.len] at h2
        have k0 : k - F.dr.ob.length = 0 := by
          have := (List.getElem?_eq_some_iff.mp h1).1
          simp at this
          omega
        rw [k0] at h1 h2
        cases h1
        cases h2
        exact ⟨o, e, ob.up push_up rfl rfl⟩
  val := fun i d h => let ⟨v, h1, h2⟩ := S.val i d h; ⟨v, h1, h2.up push_up rfl rfl⟩
  own := fun i d h => by
    obtain ⟨a, u, h1, h2, h3, h4, h5⟩ := S.own i d h
    refine ⟨a, u, h1, h2, fun z => ?_, h4, h5.up push_up rfl rfl⟩
    rcases List.mem_cons.mp z with z | z
    · rw [z] at h1
      exact nu i d h h1
    · exact h3 z
  uni := S.uni
end
section
variable {X : Cx} {e : Expr} {rest : List Stmt} {pos pos' p1 p2 p3 p4 : Pos} {j1 j2 i : Nat} {fe : M RV} {g : M Fl} {x k1 k2 : Str}
end
end FD

end sec_FD54
section sec_FD55
set_option maxRecDepth 100000
set_option maxHeartbeats 2000000
/-! FD55: {"a": e, ..}; x.f = e where x is a slot's own; own things lent to a whole expression. -/
namespace FD
open PySem L2
variable [Tabl]
/-! ### dict displays with text keys -/
def zipK (ks : List Str) (vs : List V) : List (Key × V) := (ks.zip vs).map fun p => (.inr p.1, p.2)
def zipD (ks : List Str) (ds : List D) : List (D × D) := (ks.zip ds).map fun p => (.str p.1, p.2)
section
variable {X : Cx} {pos p1 : Pos} {keys : List (Option Expr)} {vals : List Expr} {ks : List Str} {e : Expr} {fe : M RV} {g : M (List D)} {k : Str} {j1 : Nat}
def consD (f : M RV) (g : M (List D)) : M (List D) := bindM f fun r => bindM (escR r) fun d => bindM g fun ds => pureM (d :: ds)
theorem RepKV.zip {c : Ct} {da : DA} {G : Hp} : ∀ {ks : List Str} {vs : List V} {ds : List D}, RepAll c da G vs ds → RepKV c da G (zipK ks vs) (zipD ks ds)
  | [], _, _, _ => .nil
  | _ :: _, _, _, .nil => .nil
  | _ :: _, _, _, .cons a r => .cons (k := .inr _) a (RepKV.zip r)
def dicM (ks : List Str) (f : M (List D)) : M RV := bindM f fun ds => pureM (.fr (.dic (zipD ks ds)))
end
end FD

end sec_FD55
section sec_FD56
set_option maxRecDepth 100000
set_option maxHeartbeats 2000000
/-! FD56: a whole expression to which slots' own things are lent. -/
namespace FD
open PySem L2
variable [Tabl]
section
variable {c : Ct} {da : DA} {G : Hp} {n : Nat}
theorem ob_lt (l : da.ob.length ≤ n) {k : Nat} {a : Addr} (h : da.ob[k]? = some a) : decide (k < n) = true := by
  have := (List.getElem?_eq_some_iff.mp h).1
  exact decide_eq_true (by omega)
mutual
theorem Rep.cz (l : da.ob.length ≤ n) : ∀ {v : V} {d : D}, Rep c da G v d → FD.cz n d = true
  | _, _, .non => rfl
  | _, _, .bl b => rfl
  | _, _, .int i => rfl
  | _, _, .str x => rfl
  | _, _, .ty _ => rfl
  | _, _, .draw e => rfl
  | _, _, .obj e => ob_lt l e
  | _, _, .tok e => rfl
  | _, _, .tup e r => RepAll.cz l r
  | _, _, .ktup e r => RepAll.cz l r
  | _, _, .lst e r => RepAll.cz l r
  | _, _, .scr e => rfl
  | _, _, .dK e r => RepKV.cz l r
  | _, _, .dT e r => RepKT.cz l r
  | _, _, .fdT e r => RepKT.cz l r
  | _, _, .exc e e2 m r => RepF.cz l r
  | _, _, .exo e m => rfl
  | _, _, .exn e m => rfl
  | _, _, .ins e m r => RepF.cz l r
  | _, _, .lam t e e2 k r => RepAll.cz l r
theorem RepAll.cz (l : da.ob.length ≤ n) : ∀ {v : List V} {d : List D}, RepAll c da G v d → czs n d = true
  | _, _, .nil => rfl
  | _, _, .cons a r => by
    show (FD.cz n _ && czs n _) = true
    rw [Rep.cz l a, RepAll.cz l r]
    rfl
theorem RepKV.cz (l : da.ob.length ≤ n) : ∀ {v : List (Key × V)} {d : List (D × D)}, RepKV c da G v d → czp n d = true
  | _, _, .nil => rfl
  | _, _, .cons a r => by
    show (FD.cz n _ && czp n _) = true
    rw [Rep.cz l a, RepKV.cz l r]
    rfl
theorem RepKT.cz (l : da.ob.length ≤ n) : ∀ {v : List (List Key × V)} {d : List (D × D)}, RepKT c da G v d → czp n d = true
  | _, _, .nil => rfl
  | _, _, .cons a r => by
    show (FD.cz n _ && czp n _) = true
    rw [Rep.cz l a, RepKT.cz l r]
    rfl
theorem RepF.cz (l : da.ob.length ≤ n) : ∀ {v : List (Str × V)} {d : List (Str × D)}, RepF c da G v d → czf n d = true
  | _, _, .nil => rfl
  | _, _, .cons a r => by
    show (FD.cz n _ && czf n _) = true
    rw [Rep.cz l a, RepF.cz l r]
    rfl
end
theorem Obj.cz (l : da.ob.length ≤ n) {o : HO} {d : D} (h : Obj c da G o d) : FD.cz n d = true := by
  rcases h with ⟨xs, ds, _, rfl, r⟩ | ⟨kvs, ps, _, rfl, r⟩ | ⟨kvs, ps, _, rfl, r⟩ | ⟨C, dx, fs, cn, gs, _, rfl, _, r⟩
  · exact RepAll.cz l r
  · exact RepKV.cz l r
  · exact RepKT.cz l r
  · exact RepF.cz l r
end
/-- the slots js hold the objects from n on -/
def setObs (ρ : Env) (n : Nat) : List Nat → Env
  | [] => ρ
  | i :: js => setObs (ρ.set i (some (.val (.obj n)))) (n + 1) js
theorem setObs_len : ∀ {js : List Nat} {ρ : Env} {n : Nat}, (setObs ρ n js).length = ρ.length
  | [], _, _ => rfl
  | i :: js, ρ, n => by
    show (setObs (ρ.set i (some (.val (.obj n)))) (n + 1) js).length = ρ.length
    rw [setObs_len, List.length_set]
theorem setObs_get : ∀ {js : List Nat} {ρ : Env} {n i : Nat} {s : Slot}, (setObs ρ n js)[i]? = some (some s) → (∃ t, js[t]? = some i ∧ s = .val (.obj (n + t))) ∨ (i ∉ js ∧ ρ[i]? = some (some s))
  | [], ρ, n, i, s, h => .inr ⟨List.not_mem_nil, h⟩
  | j :: js, ρ, n, i, s, h => by
    rcases setObs_get (show (setObs (ρ.set j (some (.val (.obj n)))) (n + 1) js)[i]? = some (some s) from h) with ⟨t, h1, h2⟩ | ⟨m, h⟩
    · exact .inl ⟨t + 1, by simpa using h1, by rw [h2]; congr 2; omega⟩
    · rcases getElem?_set_some h with ⟨rfl, z⟩ | ⟨n2, h⟩
      · exact .inl ⟨0, rfl, by simpa using z.symm⟩
      · exact .inr ⟨fun z => (List.mem_cons.mp z).elim (fun y => n2 y.symm) m, h⟩
theorem setObs_out : ∀ {js : List Nat} {ρ : Env} {n i : Nat}, i ∉ js → (setObs ρ n js)[i]? = ρ[i]?
  | [], _, _, _, _ => rfl
  | j :: js, ρ, n, i, h => by
    show (setObs (ρ.set j (some (.val (.obj n)))) (n + 1) js)[i]? = ρ[i]?
    rw [setObs_out fun z => h (List.mem_cons_of_mem _ z), List.getElem?_set_ne fun z => h (by rw [z]; exact List.mem_cons_self)]
def Fm.lend (F : Fm) (as : List Addr) : Fm := ⟨F.dr.lend as, F.O0 ++ as, F.H0⟩
section
variable {c : Ct} {F : Fm} {O : List Addr} {ρ : Env} {w : W} {σ : L2.St} {H : Hp} {js : List Nat} {es : List D} {as : List Addr}
theorem Lend.slot (L : Lend c F O ρ w σ H js es as) {i : Nat} (h : i ∈ js) : ∃ d a, ρ[i]? = some (some (Slot.own d)) ∧ σ[i]? = some (some (V.ref a)) ∧ a ∈ as := by
  obtain ⟨t, ht⟩ := List.getElem?_of_mem h
  obtain ⟨a, d, o, h1, h2, h3, h4, _⟩ := L.at_ t i ht
  exact ⟨d, a, h3, h4, List.mem_of_getElem? h1⟩
theorem Lend.in (S : SR c F O ρ w σ H) (L : Lend c F O ρ w σ H js es as) : SR c (F.lend as) O (setObs ρ w.st.length js) { w with st := w.st ++ es } σ H where
  len := by rw [setObs_len]; exact S.len
  base := fun b o h n => S.base b o h fun z => n ((lend_as _ _ b).mpr (.inl z))
  new := fun b h n => S.new b h fun z => n (List.mem_append_left _ z)
  sub := fun b h => by
    rcases List.mem_append.mp h with h | h
    · exact S.sub b h
    · exact (L.mem h).1
  drs := fun b h => by
    rcases (lend_as _ _ b).mp h with h | h
    · exact List.mem_append_left _ (S.drs b h)
    · exact List.mem_append_right _ h
  trk := S.trk
  draw := L.ds S
  val := fun i d h => by
    rcases setObs_get h with ⟨t, h1, h2⟩ | ⟨_, h⟩
    · cases h2
      obtain ⟨a, d, o, g1, g2, g3, g4, _⟩ := L.at_ t i h1
      refine ⟨.ref a, g4, .obj ?_⟩
      show (F.dr.ob ++ as)[w.st.length + t]? = some a
      rw [← S.draw.s.len, List.getElem?_append_right (Nat.le_add_right _ _), Nat.add_sub_cancel_left]
      exact g1
    · obtain ⟨v, h1, h2⟩ := S.val i d h
      exact ⟨v, h1, h2.up L.up rfl rfl⟩
  own := fun i d h => by
    rcases setObs_get h with ⟨t, h1, h2⟩ | ⟨q, h⟩
    · cases h2
    · obtain ⟨a, o, h1, h2, h3, h4, h5⟩ := S.own i d h
      refine ⟨a, o, h1, h2, fun z => ?_, h4, h5.up L.up rfl rfl⟩
      rcases List.mem_append.mp z with z | z
      · exact h3 z
      · obtain ⟨_, _, _, i', d', hi', p1, p2⟩ := L.mem z
        exact q (by rw [S.uni i i' d d' a h p1 h1 p2]; exact hi')
  uni := fun i j d d' a h h' q q' => by
    rcases setObs_get h with ⟨t, _, z⟩ | ⟨_, h⟩
    · cases z
    · rcases setObs_get h' with ⟨t, _, z⟩ | ⟨_, h'⟩
      · cases z
      · exact S.uni i j d d' a h h' q q'
theorem Lend.out {O1 : List Addr} {w1 : W} {H1 : Hp} (S : SR c F O ρ w σ H) (L : Lend c F O ρ w σ H js es as) (S1 : SR c (F.lend as) O1 (setObs ρ w.st.length js) w1 σ H1) (x : Ex (vis O H) (vis O1 H1)) (hl : w1.st.length = w.st.length + es.length) (hc : czs w.st.length w1.st = true) :
    SR c F O1 (setOwns ρ js (w1.st.drop w.st.length)) { w1 with st := w1.st.take w.st.length } σ H1 := by
  have asN : ∀ a ∈ as, F.H0 a = none := fun a h => S.new a (L.mem h).1 (L.mem h).2.1
  have down : ∀ (k : Nat), k < w.st.length → F.dr.da.ob[k]? = (F.dr.lend as).da.ob[k]? := fun k h => by
    show F.dr.ob[k]? = (F.dr.ob ++ as)[k]?
    rw [List.getElem?_append_left (by rw [S.draw.s.len]; exact h)]
  have ld : (w1.st.drop w.st.length).length = js.length := by rw [List.length_drop, hl, L.le]; omega
  have old : ∀ {i : Nat} {d : D}, (setOwns ρ js (w1.st.drop w.st.length))[i]? = some (some (Slot.own d)) → ∃ d0, ρ[i]? = some (some (Slot.own d0)) := fun {i d} h => by
    rcases setOwns_get ld h with ⟨t, d', h1, _, _⟩ | ⟨_, h⟩
    · obtain ⟨_, d0, _, _, _, e, _⟩ := L.at_ t i h1
      exact ⟨d0, e⟩
    · exact ⟨d, h⟩
  refine ⟨by rw [setOwns_len]; exact S.len, fun b o h n => ?_, fun b h n => ?_, fun b h => S1.sub b (List.mem_append_left _ h), S.drs, S1.trk, ⟨⟨fun t q => S1.draw.d.1 t q, S1.draw.d.2⟩, ?_, S.draw.s.nd, S.draw.s.dj, fun i b d h1 h2 => ?_⟩, fun i d h => ?_, fun i d h => ?_, fun i j d d' a h h' q q' => ?_⟩
  · refine S1.base b o h fun z => ?_
    rcases (lend_as _ _ b).mp z with z | z
    · exact n z
    · rw [asN b z] at h
      cases h
  · by_cases z : b ∈ as
    · exact asN b z
    · refine S1.new b h fun y => ?_
      rcases List.mem_append.mp y with y | y
      · exact n y
      · exact z y
  · show F.dr.ob.length = (w1.st.take w.st.length).length
    rw [List.length_take, hl, S.draw.s.len]
    omega
  · have h2 : (w1.st.take w.st.length)[i]? = some d := h2
    have hi : i < w.st.length := by rw [← S.draw.s.len]; exact (List.getElem?_eq_some_iff.mp h1).1
    rw [List.getElem?_take_of_lt hi] at h2
    obtain ⟨o, e1, e2⟩ := S1.draw.s.is i b d (by show (F.dr.ob ++ as)[i]? = some b; rw [List.getElem?_append_left (by rw [S.draw.s.len]; exact hi)]; exact h1) h2
    exact ⟨o, e1, e2.down down rfl rfl (czs_get hc h2)⟩
  · rcases setOwns_get ld h with ⟨t, d', _, _, z⟩ | ⟨_, h⟩
    · cases z
    · obtain ⟨v, h1, h2⟩ := S.val i d h
      exact ⟨v, h1, h2.mono x⟩
  · rcases setOwns_get ld h with ⟨t, d', h1, h2, z⟩ | ⟨q, h⟩
    · cases z
      obtain ⟨a, d0, o0, g1, g2, g3, g4, g5, g6, g7, g8⟩ := L.at_ t i h1
      rw [List.getElem?_drop] at h2
      obtain ⟨o, e1, e2⟩ := S1.draw.s.is (w.st.length + t) a d (by show (F.dr.ob ++ as)[w.st.length + t]? = some a; rw [← S.draw.s.len, List.getElem?_append_right (Nat.le_add_right _ _), Nat.add_sub_cancel_left]; exact g1) h2
      exact ⟨a, o, g4, S1.sub a (List.mem_append_right _ (List.mem_of_getElem? g1)), g6, e1, e2.down down rfl rfl (czs_get hc h2)⟩
    · obtain ⟨a0, o0, y1, _, y3, _, y5⟩ := S.own i d h
      obtain ⟨a, o, g1, g2, g3, g4, g5⟩ := S1.own i d (by rw [setObs_out q]; exact h)
      rw [y1] at g1
      cases g1
      exact ⟨a0, o, y1, g2, y3, g4, g5.down down rfl rfl (y5.cz (by show F.dr.ob.length ≤ _; rw [S.draw.s.len]; exact Nat.le_refl _))⟩
  · obtain ⟨d0, e0⟩ := old h
    obtain ⟨d1, e1⟩ := old h'
    exact S.uni i j d0 d1 a e0 e1 q q'
end
section
variable {X : Cx} {e : Expr} {f : M RV} {js : List Nat}
end
end FD

end sec_FD56
section sec_FD57
set_option maxRecDepth 100000
set_option maxHeartbeats 2000000
/-! FD57: methods of new things that change. -/
namespace FD
open PySem L2
variable [Tabl]
open PyProof.Rows (envOfC)
section
variable {c : Ct} {F : Fm} {O : List Addr} {ρ : Env} {w : W} {σ : L2.St} {H : Hp} {a : Addr} {o : HO} {d : D}
theorem snoc_get {α : Type} {l : List α} {x y : α} {i : Nat} (h : (l ++ [x])[i]? = some y) : l[i]? = some y ∨ (i = l.length ∧ y = x) := by
  by_cases z : i < l.length
  · rw [List.getElem?_append_left z] at h
    exact .inl h
  · rw [List.getElem?_append_right (Nat.le_of_not_lt z)] at h
    have z2 : i - l.length = 0 := by
      have := (List.getElem?_eq_some_iff.mp h).1
      simp at this
      omega
    rw [z2] at h
    exact .inr ⟨by omega, by simpa using h.symm⟩
theorem snoc_old {α : Type} {l : List α} {x y : α} {i : Nat} (h : l[i]? = some y) : (l ++ [x])[i]? = some y := by
  rw [List.getElem?_append_left (List.getElem?_eq_some_iff.mp h).1]
  exact h
theorem SR.snoc (S : SR c F O ρ w σ H) (mO : a ∈ O) (nF : a ∉ F.O0) (ea : H a = some o) (ob : Obj c F.dr.da (vis O H) o d) (nu : ∀ (j : Nat) e, ρ[j]? = some (some (Slot.own e)) → σ[j]? ≠ some (some (V.ref a))) :
    SR c F O (ρ ++ [some (.own d)]) w (σ ++ [some (.ref a)]) H where
  len := by rw [List.length_append, List.length_append, S.len]; rfl
  base := S.base
  new := S.new
  sub := S.sub
  drs := S.drs
  trk := S.trk
  draw := S.draw
  val := fun i e h => by
    rcases snoc_get h with h | ⟨_, h⟩
    · obtain ⟨v, h1, h2⟩ := S.val i e h
      exact ⟨v, snoc_old h1, h2⟩
    · cases h
  own := fun i e h => by
    rcases snoc_get h with h | ⟨q, h⟩
    · obtain ⟨b, u, h1, h2⟩ := S.own i e h
      exact ⟨b, u, snoc_old h1, h2⟩
    · cases h
      refine ⟨a, o, ?_, mO, nF, ea, ob⟩
      rw [q, S.len, List.getElem?_append_right (Nat.le_refl _), Nat.sub_self]
      rfl
  uni := fun i j e e' b h h' q q' => by
    rcases snoc_get h with h | ⟨z, h⟩
    · obtain ⟨b1, _, g, _⟩ := S.own i e h
      rw [snoc_old g] at q
      cases q
      rcases snoc_get h' with h' | ⟨z', h'⟩
      · obtain ⟨b2, _, g', _⟩ := S.own j e' h'
        rw [snoc_old g'] at q'
        cases q'
        exact S.uni i j e e' _ h h' g g'
      · rw [z', S.len, List.getElem?_append_right (Nat.le_refl _), Nat.sub_self] at q'
        cases q'
        exact absurd g (nu i e h)
    · rw [z, S.len, List.getElem?_append_right (Nat.le_refl _), Nat.sub_self] at q
      cases q
      rcases snoc_get h' with h' | ⟨z', h'⟩
      · obtain ⟨b2, _, g', _⟩ := S.own j e' h'
        rw [snoc_old g'] at q'
        cases q'
        exact absurd g' (nu j e' h')
      · rw [z, z']
theorem SR.init {s : Option Slot} {v : Option V} (S : SR c F O (ρ ++ [s]) w (σ ++ [v]) H) : SR c F O ρ w σ H where
  len := by
    have := S.len
    simp at this
    exact this
  base := S.base
  new := S.new
  sub := S.sub
  drs := S.drs
  trk := S.trk
  draw := S.draw
  val := fun i e h => by
    have hl := (List.getElem?_eq_some_iff.mp h).1
    have l := S.len
    simp at l
    obtain ⟨u, h1, h2⟩ := S.val i e (snoc_old h)
    rw [List.getElem?_append_left (by omega)] at h1
    exact ⟨u, h1, h2⟩
  own := fun i e h => by
    have hl := (List.getElem?_eq_some_iff.mp h).1
    have l := S.len
    simp at l
    obtain ⟨b, u, h1, h2⟩ := S.own i e (snoc_old h)
    rw [List.getElem?_append_left (by omega)] at h1
    exact ⟨b, u, h1, h2⟩
  uni := fun i j e e' b h h' q q' => S.uni i j e e' b (snoc_old h) (snoc_old h') (snoc_old q) (snoc_old q')
end
section
variable {c : Ct} {F : Fm} {O : List Addr} {ρ : Env} {w : W} {σ : L2.St} {H : Hp}
end
/-! ### methods of what just came out -/
theorem HoldAll.sh {c : Ct} {F : Fm} {O : List Addr} {σ : L2.St} {H : Hp} : ∀ {vs : List V} {ds : List D}, RepAll c F.dr.da (vis O H) vs ds → HoldAll c F O σ H (ds.map .sh) vs
  | _, _, .nil => .nil
  | _, _, .cons a r => .cons a (HoldAll.sh r)
section
variable {c : Ct} {F : Fm} {O : List Addr} {ρ : Env} {w : W} {σ : L2.St} {H : Hp} {a : Addr} {o : HO} {d : D}
end
theorem FA.any {X : Cx} {es : List Expr} {f : M (List RV)} (h : FA X es f) : PA X es (fun σ H Q => ∃ F, tA (ct X) F f σ H Q) := ⟨fun p pins s σ H Q I ⟨F, q⟩ => (h.run F).run p pins s σ H Q I q⟩
section
variable {X : Cx} {e o : Expr} {es : List Expr} {pos p apos : Pos} {x m cn : Str} {k j n : Nat} {dd : List D} {fa : M (List RV)} {fo : M RV}
end
end FD

end sec_FD57
section sec_FD58
set_option maxRecDepth 100000
set_option maxHeartbeats 2000000
/-! FD58: x.f = e where x is a slot's own. -/
namespace FD
open PySem L2
variable [Tabl]
def putW (cn f : Str) (d : D) : RV → M Fl
  | .ow i => fun ρ w => match ρ[i]? with
    | some (some (.own (.ins c' gs))) => if c' = cn ∧ gs.length < 900 then some (.nx, ρ.set i (some (.own (.ins c' (putD f d gs)))), w) else none
    | _ => none
  | _ => failM
def setfW (cn f : Str) (fo fe : M RV) : M Fl := bindM fe fun r => bindM (escR r) fun d => bindM fo fun r3 => putW cn f d r3
section
variable {X : Cx} {e o value : Expr} {pos pos' : Pos} {m f cn : Str} {fo fe : M RV}
end
end FD

end sec_FD58
section sec_XK
set_option maxRecDepth 100000
set_option maxHeartbeats 2000000
/-! XK: C(k = v) for an own exception class C: the object is made without looking at the keyword, then its own __init__ runs with it. -/
namespace XK
open PySem Builtin HandSPX PySem.W
/-- at C stands an own exception class over B, whose line is bmB -/
def Own (h : Heap) (C : Addr) (bmB : List Value) (mk : String) : Prop :=
  ∃ (n1 n2 : Str) (N : Addr) (l1 l2 : List Value) (b1 : Bool) (l3 : List Str) (l4 : List Value) (b2 : Bool) (o1 : Option Bool) (o2 : Option Addr) (o3 o4 o5 o6 o7 : Option Value),
    h.get? C = some (excClassObj n1 n2 C N l1 l2 b1 l3 l4 b2 o1 o2 o3 o4 o5 o6 o7 mk) ∧ ∀ T : String, l2.contains (.type T) = bmB.contains (.type T)
theorem Own.keep {h h2 : Heap} {C : Addr} {l : List Value} {mk : String} (o : Own h C l mk) (k : ∀ b u, h.get? b = some u → h2.get? b = some u) : Own h2 C l mk := by
  obtain ⟨n1, n2, N, l1, l2, b1, l3, l4, b2, o1, o2, o3, o4, o5, o6, o7, e, t⟩ := o
  exact ⟨n1, n2, N, l1, l2, b1, l3, l4, b2, o1, o2, o3, o4, o5, o6, o7, k _ _ e, t⟩
section
variable {h : Heap} {g : Array GenState} {d : Drawn} {t : Nat} {os : OsState}
variable {prog : Program} {w : World} {A : Around} {R : Result → Shared → Prop} {E : Value → Shared → Prop}
variable {key : Str} {val : Value} {C fI : Addr} {lB : List Value} {B mk ini : String}
abbrev made (h : Heap) (C : Addr) : Heap := (h.push (kdv_tup [])).push (excO C h.objs.size)
end
end XK

end sec_XK
section sec_XV
set_option maxRecDepth 100000
set_option maxHeartbeats 2000000
/-! XV: exceptions that are made and kept as values: C(e), C(k = e), C(text). -/
namespace FD
open PySem L2
variable [Tabl]
section
variable {X : Cx} {e : Expr}
end
section
variable {X : Cx} {kws : List Keyword} {pos p : Pos} {tk : TA}
end
structure XckD (P : Program) (w : World) (K : PySem.W.Frag) (mg : Str → Option Value) (base : Heap) (cn f key : Str) : Prop where
  ex : ∃ (C fI : Addr) (fd : FuncData) (ps : List Str), mg cn = some (.ref C) ∧ OexC K C ∧ PySem.W.findIn K (.ref C) "__init__" = some (some (.ref fI)) ∧ PySem.W.typeIn K (.ref fI) = some (.type "function") ∧ FnOk P w K mg base CX0 1 fI fd ps (spXI C f) ∧
    ∀ (s : Shared) (self u : Value), BindsTo s fd ⟨[self], [(key, u)]⟩ (ps.zip [self, u])
/-- an own exception class without own __init__ -/
structure X0cD (K : PySem.W.Frag) (mg : Str → Option Value) (cn : Str) : Prop where
  ex : ∃ C : Addr, mg cn = some (.ref C) ∧ PySem.W.excIn K C PySem.HandSPX.veTail "ValueError.__new__" = true ∧ PySem.W.keepIn K (.ref C) = true
section
variable {X : Cx} {e : Expr} {kws : List Keyword} {pos p : Pos} {cn f key : Str} {j : Nat} {fa : M (List RV)} {fe : M RV}
end
end FD

end sec_XV
section sec_FD59
set_option maxRecDepth 100000
set_option maxHeartbeats 2000000
/-! FD59: o.m() that raises. -/
namespace FD
open PySem L2
variable [Tabl]
def meth0X (cn m : Str) (den : List D → W → Option (Xn × W)) (dd : List D) (fo : M RV) : M Xn :=
  bindM fo fun r => bindM (selfR cn m r) fun d => runX den (d :: dd)
section
variable {X : Cx} {o : Expr} {pos apos : Pos} {m cn : Str} {k j n : Nat} {dd : List D} {fo : M RV}
end
/-- an own exception class without own __init__ -/
structure X0rD (K : PySem.W.Frag) (mg : Str → Option Value) (cn : Str) : Prop where
  ex : ∃ C : Addr, mg cn = some (.ref C) ∧ PySem.W.excIn K C PySem.HandSPX.veTail "ValueError.__new__" = true ∧ PySem.W.keepIn K (.ref C) = true ∧ PySem.W.subIn K (.ref C) (.type "BaseException") = some true ∧ PySem.W.typeIn K (.ref C) = some (.type "type")
def raise0 (cn : Str) : M Xn := pureM ⟨cn, []⟩
end FD

end sec_FD59
section sec_FD60
set_option maxRecDepth 100000
set_option maxHeartbeats 2000000
/-! FD60: a list == another, a list != another, item by item by an own __eq__. -/
namespace NQ
open PySem PySem.SeqAt
open AutoSeq1 (wpAny_loadPart')
open MeetsSeq MeetsSeq2 MeetsSeq3 SeqRoads2
section
variable {prog : Program} {w : World} {A : Around} {R : Result → Shared → Prop} {l b : Addr} {N : Nat} {I : Nat → Shared → Prop}
end
section
variable {prog : Program} {w : World} {A : Around} {E : Value → Shared → Prop} {l b : Addr} {N : Nat} {I : Nat → Shared → Prop} {s : Shared} {Q : Value → Shared → Prop}
end
end NQ

end sec_FD60
section sec_FD61
set_option maxRecDepth 100000
set_option maxHeartbeats 2000000
/-! FD61: xs != ys where the items are instances with an own __eq__ and all are equal. -/
namespace FD
open PySem L2
variable [Tabl]
/-- a list's value, not one of the store, as a plain list -/
structure LstAt (c : Ct) (dr : Dr) (O : List Addr) (H : Hp) (x : V) (xs : List D) : Prop where
  ex : ∃ a vs, x = .ref a ∧ H a = some (.lst vs) ∧ a ∉ dr.as ∧ RepAll c dr.da (vis O H) vs xs
section
variable {X : Cx} {k : Nat} {cn : Str}
end
section
variable {c : Ct} {F : Fm} {O : List Addr} {ρ : Env} {w : W} {σ : L2.St} {H : Hp}
end
section
variable {X : Cx} {a b : Expr} {pos : Pos} {j k : Nat} {cn : Str} {fa fb : M RV}
end
end FD

end sec_FD61
section sec_SK3
set_option maxRecDepth 100000
set_option maxHeartbeats 1000000
/-! SK3: sorted(pairs, key=lambda y: (len(y[0]), y[0], len(y[1]), y[1])). -/
namespace SK
open PySem PySem.Spec PyProof.Rows L2 LamX PySem.W
section
variable {prog : Program} {w : World} {A : Around} {s : Shared} {mg mb : Str → Option Value}
end
/-! ### the rule -/
section
variable {X : Cx}
end
end SK

end sec_SK3
section sec_FD62
set_option maxRecDepth 100000
set_option maxHeartbeats 2000000
/-! FD62: sorted(pairs, key=lambda y: (len(y[0]), y[0], len(y[1]), y[1])). -/
namespace FD
open PySem L2 PySem.Spec PyProof.Rows
variable [Tabl]
section
variable {c : Ct} {da : DA} {G : Hp}
end
section
variable {X : Cx} {e : Expr} {fe : M RV}
end
end FD

end sec_FD62
section sec_FD63
set_option maxRecDepth 100000
set_option maxHeartbeats 2000000
/-! FD63: a test during which slots' own things are shown to all. -/
namespace FD
open PySem L2
variable [Tabl]
/-- the slots js hold their things as shared ones -/
def setVs (ρ : Env) : List Nat → List D → Env
  | i :: js, d :: ds => setVs (ρ.set i (some (.val d))) js ds
  | _, _ => ρ
theorem setVs_len : ∀ {js : List Nat} {es : List D} {ρ : Env}, (setVs ρ js es).length = ρ.length
  | [], _, ρ => rfl
  | _ :: _, [], ρ => rfl
  | j :: js, e :: es, ρ => by
    show (setVs (ρ.set j (some (.val e))) js es).length = ρ.length
    rw [setVs_len, List.length_set]
theorem setVs_get : ∀ {js : List Nat} {es : List D} {ρ : Env} {i : Nat} {s : Slot}, es.length = js.length → (setVs ρ js es)[i]? = some (some s) → (∃ (t : Nat) (d : D), js[t]? = some i ∧ es[t]? = some d ∧ s = .val d) ∨ (i ∉ js ∧ ρ[i]? = some (some s))
  | [], _, ρ, i, s, _, h => .inr ⟨List.not_mem_nil, h⟩
  | _ :: _, [], ρ, i, s, l, h => by simp at l
  | j :: js, e :: es, ρ, i, s, l, h => by
    rcases setVs_get (by simpa using l) (show (setVs (ρ.set j (some (.val e))) js es)[i]? = some (some s) from h) with ⟨t, d, h1, h2, h3⟩ | ⟨n, h⟩
    · exact .inl ⟨t + 1, d, by simpa using h1, by simpa using h2, h3⟩
    · rcases getElem?_set_some h with ⟨rfl, z⟩ | ⟨n2, h⟩
      · exact .inl ⟨0, e, rfl, rfl, by simpa using z.symm⟩
      · exact .inr ⟨fun z => (List.mem_cons.mp z).elim (fun y => n2 y.symm) n, h⟩
section
variable {c : Ct} {F : Fm} {O : List Addr} {ρ : Env} {w : W} {σ : L2.St} {H : Hp} {js : List Nat} {es : List D} {as : List Addr}
abbrev offA (O as : List Addr) : List Addr := O.filter fun b => decide (b ∉ as)
theorem offA_mem {O as : List Addr} {b : Addr} : b ∈ offA O as ↔ b ∈ O ∧ b ∉ as := by simp [offA, List.mem_filter]
theorem Lend.shown (S : SR c F O ρ w σ H) (L : Lend c F O ρ w σ H js es as) (all : ∀ (j : Nat) d, ρ[j]? = some (some (Slot.own d)) → j ∈ js) : SR c F (offA O as) (setVs ρ js es) w σ H ∧ Ex (vis O H) (vis (offA O as) H) := by
  have k : Ex (vis O H) (vis (offA O as) H) := vis_sub fun b hb => (offA_mem.mp hb).1
  refine ⟨⟨by rw [setVs_len]; exact S.len, S.base, fun b h n => S.new b (offA_mem.mp h).1 n, fun b h => offA_mem.mpr ⟨S.sub b h, fun z => (L.mem z).2.1 h⟩, S.drs, fun b h => S.trk b (offA_mem.mp h).1, S.draw.to (Ex.refl _) k, fun i d h => ?_, fun i d h => ?_, fun i j d d' a h h' q q' => ?_⟩, k⟩
  · rcases setVs_get L.le h with ⟨t, d', h1, h2, z⟩ | ⟨_, h⟩
    · cases z
      obtain ⟨a, d0, o, g1, g2, g3, g4, g5, g6, g7, g8⟩ := L.at_ t i h1
      rw [h2] at g2
      cases g2
      exact ⟨.ref a, g4, (g8.mono k).rep (by rw [vis_out fun z => (offA_mem.mp z).2 (List.mem_of_getElem? g1)]; exact g7)⟩
    · obtain ⟨v, h1, h2⟩ := S.val i d h
      exact ⟨v, h1, h2.mono k⟩
  · rcases setVs_get L.le h with ⟨t, d', _, _, z⟩ | ⟨n, h⟩
    · cases z
    · exact absurd (all i d h) n
  · rcases setVs_get L.le h with ⟨t, d', _, _, z⟩ | ⟨n, h⟩
    · cases z
    · exact absurd (all i d h) n
theorem Lend.hidden {O1 : List Addr} {w1 : W} {H1 : Hp} (S : SR c F O ρ w σ H) (L : Lend c F O ρ w σ H js es as) (all : ∀ (j : Nat) d, ρ[j]? = some (some (Slot.own d)) → j ∈ js) (st : w1.st = []) (S1 : SR c F O1 (setVs ρ js es) w1 σ H1) (x : Ex (vis (offA O as) H) (vis O1 H1)) :
    SR c F (as ++ O1) ρ w1 σ H1 ∧ Ex (vis O H) (vis (as ++ O1) H1) := by
  have k : Ex (vis O H) (vis (as ++ O1) H1) := fun b o h => by
    obtain ⟨n, q⟩ := vis_some h
    have nb : b ∉ as := fun z => n (L.mem z).1
    obtain ⟨n1, q1⟩ := vis_some (x b o (by rw [vis_out fun z => n (offA_mem.mp z).1]; exact q))
    rw [vis_out fun z => (List.mem_append.mp z).elim nb n1]
    exact q1
  have at1 : ∀ (a : Addr) o, a ∈ as → H a = some o → H1 a = some o := fun a o m q => (vis_some (x a o (by rw [vis_out fun z => (offA_mem.mp z).2 m]; exact q))).2
  refine ⟨⟨S.len, S1.base, fun b h n => ?_, fun b h => List.mem_append_right _ (S1.sub b h), S.drs, fun b h => ?_, ⟨S1.draw.d, ?_⟩, fun i d h => ?_, fun i d h => ?_, S.uni⟩, k⟩
  · rcases List.mem_append.mp h with z | z
    · exact S.new b (L.mem z).1 (L.mem z).2.1
    · exact S1.new b z n
  · rcases List.mem_append.mp h with z | z
    · obtain ⟨o, q, nt⟩ := S.trk b (L.mem z).1
      exact ⟨o, at1 b o z q, nt⟩
    · exact S1.trk b z
  · have l0 : F.dr.ob = [] := by
      have := S1.draw.s.len
      rw [st] at this
      exact List.eq_nil_of_length_eq_zero this
    rw [st]
    exact Sto.nil l0
  · obtain ⟨v, h1, h2⟩ := S.val i d h
    exact ⟨v, h1, h2.mono k⟩
  · obtain ⟨t, ht⟩ := List.getElem?_of_mem (all i d h)
    obtain ⟨a, d0, o, g1, g2, g3, g4, g5, g6, g7, g8⟩ := L.at_ t i ht
    rw [h] at g3
    cases g3
    exact ⟨a, o, g4, List.mem_append_left _ (List.mem_of_getElem? g1), g6, at1 a o (List.mem_of_getElem? g1) g7, g8.mono k⟩
end
end FD

end sec_FD63
section sec_FD65
set_option maxRecDepth 100000
set_option maxHeartbeats 4000000
/-! FD65: lists that a call made are changed by the caller, behind a test, and then forgotten. -/
namespace FD
open PySem L2
variable [Tabl]
mutual
/-- plain data in which no list stands -/
def nl : D → Bool
  | .non => true
  | .bl _ => true
  | .int _ => true
  | .str _ => true
  | .ty _ => true
  | .tup ds => nls ds
  | .ktup ds => nls ds
  | .ins _ fs => nlf fs
  | _ => false
def nls : List D → Bool
  | [] => true
  | d :: r => nl d && nls r
def nlf : List (Str × D) → Bool
  | [] => true
  | (_, d) :: r => nl d && nlf r
end
theorem and_l {a b : Bool} (h : (a && b) = true) : a = true := (Bool.and_eq_true_iff.mp h).1
theorem and_r {a b : Bool} (h : (a && b) = true) : b = true := (Bool.and_eq_true_iff.mp h).2
section
variable {c : Ct} {da : DA} {G G' : Hp}
theorem Rd.nl {a : Addr} {u : HO} (e : ∀ b u, G b = some u → (∀ xs, u ≠ .lst xs) → G' b = some u) (hu : ∀ xs, u ≠ .lst xs) (h : Rd G a u) : Rd G' a u := by
  rcases h with h | ⟨o, h⟩
  · exact .inl (e _ _ h hu)
  · exact .inr ⟨o, e _ _ h fun _ z => nomatch z⟩
theorem tup_nl {xs : List V} : ∀ ys, HO.tup xs ≠ .lst ys := fun _ z => nomatch z
theorem ins_nl {C dx : Addr} {fs : List (Str × V)} : ∀ ys, HO.ins C dx fs ≠ .lst ys := fun _ z => nomatch z
mutual
theorem Rep.nl (e : ∀ b u, G b = some u → (∀ xs, u ≠ .lst xs) → G' b = some u) : ∀ {v : V} {d : D}, Rep c da G v d → FD.nl d = true → Rep c da G' v d
  | _, _, .non => fun _ => .non
  | _, _, .bl b => fun _ => .bl b
  | _, _, .int i => fun _ => .int i
  | _, _, .str x => fun _ => .str x
  | _, _, .ty n => fun _ => .ty n
  | _, _, .draw _ => fun h => absurd h Bool.false_ne_true
  | _, _, .obj _ => fun h => absurd h Bool.false_ne_true
  | _, _, .tok _ => fun h => absurd h Bool.false_ne_true
  | _, _, .tup q r => fun h => .tup (e _ _ q tup_nl) (RepAll.nl e r h)
  | _, _, .ktup q r => fun h => .ktup (q.elim (fun q => .inl (Rd.nl e tup_nl q)) .inr) (RepAll.nl e r h)
  | _, _, .lst _ _ => fun h => absurd h Bool.false_ne_true
  | _, _, .scr _ => fun h => absurd h Bool.false_ne_true
  | _, _, .dK _ _ => fun h => absurd h Bool.false_ne_true
  | _, _, .dT _ _ => fun h => absurd h Bool.false_ne_true
  | _, _, .fdT _ _ => fun h => absurd h Bool.false_ne_true
  | _, _, .exc _ _ _ _ => fun h => absurd h Bool.false_ne_true
  | _, _, .exo _ _ => fun h => absurd h Bool.false_ne_true
  | _, _, .exn _ _ => fun h => absurd h Bool.false_ne_true
  | _, _, .ins q m r => fun h => .ins (e _ _ q ins_nl) m (RepF.nl e r h)
  | _, _, .lam _ _ _ _ _ => fun h => absurd h Bool.false_ne_true
theorem RepAll.nl (e : ∀ b u, G b = some u → (∀ xs, u ≠ .lst xs) → G' b = some u) : ∀ {v : List V} {d : List D}, RepAll c da G v d → nls d = true → RepAll c da G' v d
  | _, _, .nil => fun _ => .nil
  | _, _, .cons a r => fun h => .cons (Rep.nl e a (and_l h)) (RepAll.nl e r (and_r h))
theorem RepF.nl (e : ∀ b u, G b = some u → (∀ xs, u ≠ .lst xs) → G' b = some u) : ∀ {v : List (Str × V)} {d : List (Str × D)}, RepF c da G v d → nlf d = true → RepF c da G' v d
  | _, _, .nil => fun _ => .nil
  | _, _, .cons a r => fun h => .cons (Rep.nl e a (and_l h)) (RepF.nl e r (and_r h))
end
end
section
variable {c : Ct} {F : Fm} {O O2 : List Addr} {ρ ρ2 : Env} {w w2 : W} {σ σ2 σ4 : L2.St} {H H2 H4 : Hp} {js : List Nat} {es : List D} {as news : List Addr} {i j : Nat}
/-- what was made since is forgotten -/
theorem SR.left (S : SR c F O ρ w σ H) (L : Lend c F O ρ w σ H js es as) (all : ∀ (j : Nat) d, ρ[j]? = some (some (Slot.own d)) → j ∈ js) (S2 : SR c F O2 ρ2 w2 σ2 H2) (st : w2.st = []) (hn : ∀ x ∈ news, H x = none) (hv : ∀ x ∈ news, x ∉ O2) (hk : ∀ x ∈ news, ∃ xs, H2 x = some (.lst xs))
    (k0 : Ex (vis (offA O as) H) (vis O2 H2)) (chg : ∀ x, x ∉ news → H4 x = H2 x) (hs : ∀ k, k ≠ i → k ≠ j → σ4[k]? = σ[k]?) (hl : σ4.length = σ.length) :
    SR c F (O2 ++ as) ((ρ.set i none).set j none) w2 σ4 H4 ∧ Ex (vis O H) (vis (O2 ++ as) H4) := by
  have nn : ∀ {x o}, H x = some o → x ∉ news := fun {x o} e z => by
    rw [hn x z] at e
    cases e
  have k1 : ∀ {x o}, H x = some o → x ∉ offA O as → H4 x = some o ∧ x ∉ O2 := fun {x o} e z => by
    have := k0 x o (by rw [vis_out z]; exact e)
    obtain ⟨q1, q2⟩ := vis_some this
    exact ⟨(chg x (nn e)).trans q2, q1⟩
  have na : ∀ {x}, x ∈ as → x ∉ offA O as := fun {x} m z => (offA_mem.mp z).2 m
  have x4 : Ex (vis O H) (vis (O2 ++ as) H4) := fun b u q => by
    obtain ⟨q1, q2⟩ := vis_some q
    obtain ⟨q3, q4⟩ := k1 q2 fun z => q1 (offA_mem.mp z).1
    rw [vis_out fun z => (List.mem_append.mp z).elim q4 fun m => q1 (L.mem m).1]
    exact q3
  have slot : ∀ {k : Nat} {s : Slot}, ((ρ.set i none).set j none)[k]? = some (some s) → ρ[k]? = some (some s) ∧ σ4[k]? = σ[k]? := fun {k s} h => by
    rcases getElem?_set_some h with ⟨rfl, z⟩ | ⟨n1, h⟩
    · cases z
    · rcases getElem?_set_some h with ⟨rfl, z⟩ | ⟨n2, h⟩
      · cases z
      · exact ⟨h, hs k (fun z => n2 z.symm) (fun z => n1 z.symm)⟩
  refine ⟨⟨by rw [List.length_set, List.length_set, hl]; exact S.len, fun a o h n => ?_, fun a h n => ?_, fun a h => List.mem_append_left _ (S2.sub a h), S.drs, fun a h => ?_, ⟨⟨fun t q => ?_, fun p hp => ?_⟩, ?_⟩, fun k d h => ?_, fun k d h => ?_, fun k l d d' a h h' q q' => ?_⟩, x4⟩
  · exact (chg a (nn (S.base a o h n))).trans (S2.base a o h n)
  · rcases List.mem_append.mp h with h | h
    · exact S2.new a h n
    · exact S.new a (L.mem h).1 n
  · rcases List.mem_append.mp h with h | h
    · obtain ⟨o, e, nt⟩ := S2.trk a h
      exact ⟨o, (chg a fun z => hv a z h).trans e, nt⟩
    · obtain ⟨o, e, nt⟩ := S.trk a (L.mem h).1
      exact ⟨o, (k1 e (na h)).1, nt⟩
  · obtain ⟨q1, q2, q3, _⟩ := S.draw.d.1 t q
    obtain ⟨p1, p2, p3, p4⟩ := S2.draw.d.1 t q
    exact ⟨(chg _ (nn q1)).trans p1, (chg _ (nn q2)).trans p2, (chg _ (nn q3)).trans p3, p4⟩
  · obtain ⟨ps, q, _⟩ := S.draw.d.2 p hp
    obtain ⟨qs, q2, q3⟩ := S2.draw.d.2 p hp
    refine ⟨qs, (chg _ (nn q)).trans q2, q3.1, fun pos cv e => ?_⟩
    obtain ⟨c', e1, e2⟩ := q3.2 pos cv e
    refine ⟨c', e1, (chg _ fun z => ?_).trans e2⟩
    obtain ⟨xs, e3⟩ := hk _ z
    rw [e2] at e3
    cases e3
  · have l0 : F.dr.ob = [] := by
      have := S2.draw.s.len
      rw [st] at this
      exact List.eq_nil_of_length_eq_zero this
    rw [st]
    exact Sto.nil l0
  · obtain ⟨h, e⟩ := slot h
    obtain ⟨v, h1, h2⟩ := S.val k d h
    exact ⟨v, e.trans h1, h2.mono x4⟩
  · obtain ⟨h, e⟩ := slot h
    obtain ⟨a, o, h1, h2, h3, h4, h5⟩ := S.own k d h
    obtain ⟨t, ht⟩ := List.getElem?_of_mem (all k d h)
    obtain ⟨a', d', o', g1, g2, g3, g4, _⟩ := L.at_ t k ht
    rw [h1] at g4
    cases g4
    have ma : a ∈ as := List.mem_of_getElem? g1
    exact ⟨a, o, e.trans h1, List.mem_append_right _ ma, h3, (k1 h4 (na ma)).1, h5.mono x4⟩
  · obtain ⟨h, e⟩ := slot h
    obtain ⟨h', e'⟩ := slot h'
    exact S.uni k l d d' a h h' (e.symm.trans q) (e'.symm.trans q')
end
end FD

end sec_FD65
section sec_FD67
set_option maxRecDepth 100000
set_option maxHeartbeats 4000000
/-! FD67: an expression to which own lists are shown; f(x, [..]) that hands back one of the items. -/
namespace FD
open PySem L2
variable [Tabl]
/-! ### own lists shown to an expression whose value holds no list -/
open Classical in
noncomputable def showE (js : List Nat) (f : M RV) : M RV := fun ρ w => match ownsD ρ js with
  | some es => (match f (setVs ρ js es) w with
    | some (.sh d, ρ', w') => if ρ' = setVs ρ js es ∧ js.Nodup ∧ nl d = true ∧ w'.st = [] ∧ (∀ (j : Nat) d, ρ[j]? = some (some (Slot.own d)) → j ∈ js) ∧ ∀ e ∈ es, ∃ xs, e = D.lst xs then some (.sh d, ρ, w') else none
    | _ => none)
  | none => none
theorem showE_some {js : List Nat} {f : M RV} {ρ : Env} {w : W} {z : RV × Env × W} (h : showE js f ρ w = some z) : ∃ es d w', ownsD ρ js = some es ∧ f (setVs ρ js es) w = some (.sh d, setVs ρ js es, w') ∧ js.Nodup ∧ nl d = true ∧ w'.st = [] ∧ (∀ (j : Nat) d, ρ[j]? = some (some (Slot.own d)) → j ∈ js) ∧ (∀ e ∈ es, ∃ xs, e = D.lst xs) ∧ z = (.sh d, ρ, w') := by
  unfold showE at h
  split at h
  · rename_i es e1
    split at h
    · rename_i d ρ' w' e2
      split at h
      · rename_i q
        obtain ⟨rfl, q1, q2, q3, q4, q5⟩ := q
        exact ⟨es, d, w', e1, e2, q1, q2, q3, q4, q5, (Option.some.inj h).symm⟩
      · cases h
    · cases h
  · cases h
theorem showE_read {c : Ct} {F : Fm} {f : M RV} {js : List Nat} {O : List Addr} {ρ ρ' : Env} {w w' : W} {r : RV} {σ : L2.St} {H : Hp} {Q : VK} (S : SR c F O ρ w σ H) (ey : showE js f ρ w = some (r, ρ', w')) (k : ∀ v O' H', SR c F O' ρ' w' σ H' → Ex (vis O H) (vis O' H') → RepR c F (vis O H) O' ρ' w' σ H' r v → Q v H') : tE c F f σ H Q := by
  obtain ⟨es, d, w1, e1, e2, nd, nn, st, all, ls, ez⟩ := showE_some ey
  cases ez
  have L := lend_of S e1 nd
  obtain ⟨S0, x0⟩ := L.shown S all
  refine ⟨_, _, _, _, _, _, S0, e2, fun v O1 H1 S1 x1 R1 => ?_⟩
  obtain ⟨S2, x2⟩ := L.hidden S all st S1 x1
  have R1 : Rep c F.dr.da (vis O1 H1) v d := R1
  refine k v _ H1 S2 x2 (R1.nl (fun b u hb hu => ?_) nn)
  obtain ⟨q1, q2⟩ := vis_some hb
  rw [vis_out fun z => (List.mem_append.mp z).elim (fun m => ?_) q1]
  · exact q2
  · obtain ⟨t, ht⟩ := List.getElem?_of_mem m
    have hl : t < js.length := by
      have := (List.getElem?_eq_some_iff.mp ht).1
      rw [L.lj] at this
      exact this
    obtain ⟨a, d0, o, g1, g2, g3, g4, g5, g6, g7, g8⟩ := L.at_ t js[t] (List.getElem?_eq_getElem hl)
    rw [ht] at g1
    cases g1
    have na : b ∉ offA O (js.map (adr σ)) := fun z => (offA_mem.mp z).2 m
    have := (vis_some (x1 b o (by rw [vis_out na]; exact g7))).2
    rw [q2] at this
    cases this
    obtain ⟨xs, rfl⟩ := ls d0 (List.mem_of_getElem? g2)
    rcases g8 with ⟨ys, _, e1, _⟩ | ⟨_, _, _, e2, _⟩ | ⟨_, _, _, e2, _⟩ | ⟨_, _, _, _, _, _, e2, _⟩
    · exact hu ys e1
    · cases e2
    · cases e2
    · cases e2
/-- the slots that own something -/
def ownIx (ρ : Env) : List Nat := (List.range ρ.length).filter fun i => match ρ[i]? with
  | some (some (.own _)) => true
  | _ => false
noncomputable def showA (f : M RV) : M RV := fun ρ w => showE (ownIx ρ) f ρ w
theorem fe_showA {X : Cx} {e : Expr} {f : M RV} (h : FE X e f) : FE X e (showA f) := fun F => PE.wk (h F) fun σ H Q q => by
  obtain ⟨O, ρ, w, r, ρ', w', S, ey, k⟩ := q
  exact showE_read S ey k
/-! ### one of the items -/
section
variable {c : Ct} {F : Fm} {O O2 : List Addr} {ρ : Env} {w : W} {σ : L2.St} {H : Hp} {a : Addr}
theorem vis_memb (h : ∀ x, x ∈ O ↔ x ∈ O2) : vis O H = vis O2 H := by
  funext b
  unfold vis
  by_cases z : b ∈ O
  · rw [if_pos z, if_pos ((h b).mp z)]
  · rw [if_neg z, if_neg fun y => z ((h b).mpr y)]
theorem SR.memb (S : SR c F O ρ w σ H) (h : ∀ x, x ∈ O ↔ x ∈ O2) : SR c F O2 ρ w σ H := by
  have e : vis O H = vis O2 H := vis_memb h
  refine ⟨S.len, S.base, fun a q => S.new a ((h a).mpr q), fun a q => (h a).mp (S.sub a q), S.drs, fun a q => S.trk a ((h a).mpr q), S.draw.to (Ex.refl _) (by rw [e]; exact Ex.refl _), fun i d q => ?_, fun i d q => ?_, S.uni⟩
  · rw [← e]
    exact S.val i d q
  · rw [← e]
    obtain ⟨b, o, h1, h2, h3⟩ := S.own i d q
    exact ⟨b, o, h1, (h b).mp h2, h3⟩
theorem SR.unhide (S : SR c F (a :: O) ρ w σ H) (h0 : a ∉ F.O0) (nu : ∀ (j : Nat) e, ρ[j]? = some (some (Slot.own e)) → σ[j]? ≠ some (some (V.ref a))) : SR c F O ρ w σ H := by
  have k : Ex (vis (a :: O) H) (vis O H) := vis_sub fun b hb => List.mem_cons_of_mem _ hb
  refine ⟨S.len, S.base, fun b h n => S.new b (List.mem_cons_of_mem _ h) n, fun b h => ?_, S.drs, fun b h => S.trk b (List.mem_cons_of_mem _ h), S.draw.to (Ex.refl _) k, fun i d h => ?_, fun i d h => ?_, S.uni⟩
  · rcases List.mem_cons.mp (S.sub b h) with z | z
    · rw [z] at h
      exact absurd h h0
    · exact z
  · obtain ⟨v, h1, h2⟩ := S.val i d h
    exact ⟨v, h1, h2.mono k⟩
  · obtain ⟨b, o, h1, h2, h3, h4, h5⟩ := S.own i d h
    refine ⟨b, o, h1, ?_, h3, h4, h5.mono k⟩
    rcases List.mem_cons.mp h2 with z | z
    · rw [z] at h1
      exact absurd h1 (nu i d h)
    · exact z
end
theorem Got.len {c : Ct} {da : DA} {O : List Addr} {H : Hp} : ∀ {P : List Addr} {rs : List RV} {vs : List V}, Got c da O H P rs vs → vs.length = rs.length
  | _, _, _, .nil => rfl
  | _, _, _, .sh _ r => by rw [List.length_cons, List.length_cons, Got.len r]
  | _, _, _, .fr _ _ _ _ r => by rw [List.length_cons, List.length_cons, Got.len r]
/-- the k-th of the pending values -/
theorem Got.get {c : Ct} {da : DA} {O : List Addr} {H : Hp} : ∀ {P : List Addr} {rs : List RV} {vs : List V}, Got c da O H P rs vs → ∀ {k : Nat} {r : RV}, rs[k]? = some r → ∃ v, vs[k]? = some v ∧ ((∃ d, r = .sh d ∧ Rep c da (vis O H) v d) ∨ ∃ a o d, r = .fr d ∧ v = .ref a ∧ a ∈ P ∧ a ∈ O ∧ H a = some o ∧ Obj c da (vis O H) o d)
  | _, _, _, .nil, _, _, h => by simp at h
  | _, _, _, .sh rp g, 0, r, h => by
    cases h
    exact ⟨_, rfl, .inl ⟨_, rfl, rp⟩⟩
  | _, _, _, .sh rp g, k + 1, r, h => by
    obtain ⟨v, e, q⟩ := Got.get g (k := k) (r := r) (by simpa using h)
    exact ⟨v, by simpa using e, q⟩
  | _, _, _, .fr m n e ob g, 0, r, h => by
    cases h
    exact ⟨_, rfl, .inr ⟨_, _, _, rfl, rfl, List.mem_cons_self, m, e, ob⟩⟩
  | _, _, _, .fr m n e ob g, k + 1, r, h => by
    obtain ⟨v, e, q⟩ := Got.get g (k := k) (r := r) (by simpa using h)
    refine ⟨v, by simpa using e, q.imp id fun ⟨a, o, d, q1, q2, q3, q4⟩ => ⟨a, o, d, q1, q2, List.mem_cons_of_mem _ q3, q4⟩⟩
def toksF (s : Nat) : Nat → List D
  | 0 => []
  | n + 1 => .tok s :: toksF (s + 1) n
abbrev toks (n : Nat) : List D := toksF 0 n
theorem toks_rep {c : Ct} {da : DA} {G : Hp} : ∀ {vs : List V} {s : Nat}, (∀ (k : Nat) v, vs[k]? = some v → da.tok (s + k) = some v) → RepAll c da G vs (toksF s vs.length)
  | [], _, _ => .nil
  | v :: vs, s, h => .cons (.tok (h 0 v rfl)) (toks_rep (s := s + 1) fun k u e => by
      have := h (k + 1) u (by simpa using e)
      rw [show s + 1 + k = s + (k + 1) by omega]
      exact this)
open Classical in
noncomputable def callT (den : List D → W → Option (RV × W)) (i0 : Nat) (fp : M (List RV)) : M RV := fun ρ w => if ρ[i0]? = some (some (.val .draw)) then bindM fp (fun rs => fun ρ w => match den [.draw, .lst (toks rs.length)] w with
    | some (.sh (.tok k), w') => if w.st = [] ∧ w'.st = [] ∧ rs.length ≤ 1000000 then (match rs[k]? with
      | some r => some (r, ρ, w')
      | none => none) else none
    | _ => none) ρ w else none
section
variable {X : Cx} {e0 : Expr} {es : List Expr} {x : Str} {p lp pos : Pos} {k j i0 : Nat} {den : List D → W → Option (RV × W)} {fp : M (List RV)}
theorem fe_callT (cl : CalD X.prog X.w X.K X.mg X.base k x 2 [] den) (hr : Room j X.A) (hg : Gl X x) (h0 : PE X e0 (tVar i0)) (hes : FP X es fp) (hk : k ≤ j := by decide) (hdb : NotDebug x := by decide)
    (hs : starEach [e0, .List es lp] X.env = (false, eval e0 X.env) :: starEach [.List es lp] X.env := by rfl) (hs2 : starEach [.List es lp] X.env = (false, eval (.List es lp) X.env) :: starEach [] X.env := by rfl)
    (he : Plain1 X e0 [.List es lp] := by rfl) (hpl : PlainR X [.List es lp] pos := by rfl) : FE X (.Call (.Name x p) [e0, .List es lp] [] pos) (callT den i0 fp) := fun F => by
  obtain ⟨f, fd, ps, ds, dvs, FO, hm, kp, b, d, rd⟩ := cl.ex
  refine PE.wk (pe_call FO (hr.mono hk) hg hm kp b d pass0 (pa_cons h0 (pa_cons (pe_lst (hes F)) pa_nil hs2) hs) hdb he hpl) fun σ H Q q => ?_
  obtain ⟨O, ρ, w, r, ρ', w', S, e, kk⟩ := q
  unfold callT at e
  split at e
  · rename_i hd0
    obtain ⟨rs, ρ1, w1, e1, e2⟩ := bindM_some e
    obtain ⟨v0, hv0, r0⟩ := S.val i0 .draw hd0
    cases r0 with
    | @draw a0 ha0 =>
    split at e2
    · rename_i kx w2 e3
      split at e2
      · rename_i hc
        obtain ⟨st1, st2, hl⟩ := hc
        split at e2
        · rename_i r1 e4
          cases e2
          refine ⟨_, hv0, O, ρ, w, rs, ρ', w1, S, e1, fun vs O1 H1 S1 x1 P1 => ?_⟩
          obtain ⟨P, G, pp⟩ := P1
          have lv := G.len
          refine ⟨by rw [lv, PySem.sizeLine_eq]; omega, fun l nl => ?_⟩
          have ob0 : F.dr.ob = [] := by
            have := S1.draw.s.len
            rw [st1] at this
            exact List.eq_nil_of_length_eq_zero this
          have ed : dvs = [] := by
            cases rd F.dr.da H
            rfl
          subst ed
          obtain ⟨dr, hdr⟩ : ∃ dr : Dr, dr = { F.dr with tok := fun k => vs[k]? } := ⟨_, rfl⟩
          have eas : dr.as = F.dr.as := by rw [hdr]; rfl
          have nO : l ∉ O1 := fun z => by
            obtain ⟨o, q, _⟩ := S1.trk l z
            rw [nl] at q
            cases q
          have x2 : Ex H1 (upd H1 l (.lst vs)) := Ex.new nl
          have dw : ∀ {u : W} {J : Hp}, DrawAt dr u J ↔ DrawAt F.dr u J := by
            intro u J
            rw [hdr]
            exact Iff.rfl
          have rl : RepAll (ct X) dr.da (vis O1 (upd H1 l (.lst vs))) vs (toks rs.length) := by
            rw [← lv]
            refine toks_rep fun k v e => ?_
            rw [hdr, Nat.zero_add]
            exact e
          refine ⟨dr, O1, w1, [.draw, .lst (toks rs.length)], .sh (.tok kx), w', fun b hb => S1.drO b (eas ▸ hb), fun b hb => ?_, ⟨dw.mpr (S1.draw.d.mono x2), ?_⟩, .cons (.draw (by rw [hdr]; exact ha0)) (.cons (.lst (by rw [vis_out nO]; exact upd_same) rl) .nil), rfl, e3, fun v H2 kp2 D2 rn => ?_⟩
          · obtain ⟨o, q, nt⟩ := S1.trk b hb
            exact ⟨o, x2 _ _ q, nt⟩
          · rw [st1]
            exact Sto.nil (by rw [hdr]; exact ob0)
          · have D2 : DS (ct X) dr w' O1 H2 := D2
            have kp3 : Kp F.dr (upd H1 l (.lst vs)) H2 := fun a o h n => kp2 a o h (by rw [eas]; exact n)
            have D3 : DS (ct X) F.dr w' O1 H2 := ⟨dw.mp D2.d, by rw [st2]; exact Sto.nil ob0⟩
            have S2 := (S1.grow x2).kept kp3 D3
            have x3 : Ex (vis O1 H1) (vis O1 H2) := (vis_mono x2).trans (vis_kp S1.drO kp3)
            have rn : Rep (ct X) dr.da (vis O1 H2) v (.tok kx) := rn
            cases rn with
            | @tok _ _ hv =>
            have hv : vs[kx]? = some v := by
              rw [hdr] at hv
              exact hv
            obtain ⟨v', e5, q⟩ := G.get e4
            rw [hv] at e5
            cases e5
            rcases q with ⟨d1, rfl, rp⟩ | ⟨a, o, d1, rfl, rfl, mP, mO, eo, ob⟩
            · exact kk v O1 H2 S2 (x1.trans x3) (rp.mono x3)
            · obtain ⟨nF, nu⟩ := pp a mP
              obtain ⟨O3, hO3⟩ : ∃ O3, O3 = O1.filter fun b => decide (b ≠ a) := ⟨_, rfl⟩
              have mem : ∀ x, x ∈ O1 ↔ x ∈ a :: O3 := fun x => by
                rw [hO3, List.mem_cons, List.mem_filter, decide_eq_true_eq]
                by_cases z : x = a
                · rw [z]
                  exact ⟨fun _ => .inl rfl, fun _ => mO⟩
                · exact ⟨fun h => .inr ⟨h, z⟩, fun h => h.elim (fun y => absurd y z) And.left⟩
              have nO3 : a ∉ O3 := fun z => by
                rw [hO3, List.mem_filter, decide_eq_true_eq] at z
                exact z.2 rfl
              have S3 := S2.memb mem
              have S4 := S3.unhide nF nu
              have ev : vis O1 H2 = vis (a :: O3) H2 := vis_memb mem
              have na : a ∉ F.dr.as := fun z => nF (S1.drs a z)
              have ea : H2 a = some o := kp3 a o (x2 a o eo) na
              have x4 : Ex (vis (a :: O3) H2) (vis O3 H2) := vis_sub fun b hb => List.mem_cons_of_mem _ hb
              have x5 : Ex (vis O1 H1) (vis (a :: O3) H2) := by rw [← ev]; exact x3
              exact kk _ O3 H2 S4 ((x1.trans x5).trans x4) ⟨a, o, rfl, nO3, S3, ea, ob.mono x5, x1.trans x5⟩
        · cases e2
      · cases e2
    · cases e2
  · cases e
end
end FD

end sec_FD67
section sec_FD68
set_option maxRecDepth 100000
set_option maxHeartbeats 400000
/-! FD68: {("a", "b"): n}. -/
namespace FD
open PySem L2
variable [Tabl]
theorem fe_ditS {X : Cx} {m n : Str} {v : Int} {j j1 j2 j3 i1 : Nat} {p1 p2 p3 p4 pos : Pos} (hr : Room j X.A) (hs : Plain1 X (.Constant (.str m) j1 p1) [.Constant (.str n) j2 p2] := by rfl) (hs2 : Plain1 X (.Constant (.str n) j2 p2) [] := by rfl) :
    FE X (.Dict [some (.Tuple [.Constant (.str m) j1 p1, .Constant (.str n) j2 p2] i1 p4)] [.Constant (.int v) j3 p3] pos) (pureM (.fr (.dit [(.tup [.str m, .str n], .int v)]))) := fun F =>
  PE.wk (pe_dispT hr (pe_tup (pks_cons pe_str (pks_cons pe_str pks_nil hs2) hs)) pe_int) fun σ H Q h => by
  obtain ⟨O, ρ, w, r, ρ', w', S, e, k⟩ := h
  cases e
  intro p np
  refine ⟨small_fits (by simp), fun a na => ?_⟩
  have ap : a ≠ p := fun z => by
    rw [z, upd_same] at na
    cases na
  have na0 : H a = none := by
    rw [upd_ne ap] at na
    exact na
  refine ⟨a, [.inr m, .inr n], .int v, rfl, upd_same, by rw [upd_ne (Ne.symm ap), upd_same], ?_⟩
  have x2 : Ex H (upd (upd (upd H p (.dT [])) a (.tup [.str m, .str n])) p (.dT [([.inr m, .inr n], .int v)])) := fun b o hb => by
    rw [upd_ne (ne_of_none hb np), upd_ne (ne_of_none hb na0), upd_ne (ne_of_none hb np)]
    exact hb
  obtain ⟨S3, n3, k3⟩ := S.hide np x2 upd_same
  exact k _ O _ (S.grow x2) (vis_mono x2) ⟨p, _, rfl, n3, S3, upd_same, .inr (.inr (.inl ⟨[([.inr m, .inr n], .int v)], [(.tup [.str m, .str n], .int v)], rfl, rfl, .cons (k := [.inr m, .inr n]) (.int v) .nil⟩)), k3⟩
end FD

end sec_FD68
section sec_XD9
set_option maxRecDepth 100000
set_option maxHeartbeats 400000
/-! XD9: f(k = e, ..) that raises. -/
namespace FD
open PySem L2
variable [Tabl]
structure XkwD (P : Program) (w : World) (K : PySem.W.Frag) (mg : Str → Option Value) (base : Heap) (k : Nat) (x : Str) (n : Nat) (ks : List Str) (ix : List Nat) (den : List D → W → Option (Xn × W)) : Prop where
  ex : ∃ (f : Addr) (fd : FuncData) (ps : List Str), mg x = some (.ref f) ∧ PySem.W.keepIn K (.ref f) = true ∧ FnOk P w K mg base (L2.CX P w) k f fd ps (spX ⟨K, mg⟩ n den) ∧
    ∀ (s : Shared) (ws : List Value), K.In s.heap → ws.length = ks.length → BindsTo s fd ⟨[], ks.zip ws⟩ (ps.zip (pickL ix ws))
section
variable {X : Cx} {kws : List Keyword} {pos p : Pos} {x : Str} {k j n : Nat} {ks : List Str} {ix : List Nat} {den : List D → W → Option (Xn × W)} {fa : M (List RV)}
end
section
variable {P : Program} {w : World} {K : PySem.W.Frag} {mg : Str → Option Value} {base : Heap}
open PyProof.Rows (envOfC)
/-- a def with defaults that raises -/
theorem xdef_okD {x qual : Str} {params : Arguments} {body : List Stmt} {scope : Scope} {dvs : List V} {kws : List (Str × V)} {f : Addr} {fd : FuncData} {N ps : List Str} {k : Nat} {g : M Xn} (F : FunD K x qual params body scope dvs kws f fd) (S : FnScope N ps scope)
    (hb : ∀ (cdv : Value) (A : Around) (outer : List PySem.Env) (s : Shared) (H : Hp) (E : XK), Room k (A.deeper (envOfC qual scope s.heap.objs.size f cdv)) → FX (cxOf (L2.CX P w) P w K mg base N qual scope f cdv A outer s H E) body g) :
    FnOk P w K mg base (L2.CX P w) (k + 1) f fd ps (spX ⟨K, mg⟩ ps.length (denX N.length g)) := by
  obtain ⟨oc, od, dV, kV, doc, pm, an, cdv, ctt, osl, rfl, lk, hcd, _, _⟩ := F.ex
  refine fn_of lk hcd S (fun vs H Q E h => ?_) fun A outer s H vs Q E hr h => ?_
  · obtain ⟨dr, O0, wd, ds, y, w', _, _, _, h4, h5, _⟩ := h
    rw [h4.length, h5]
  · obtain ⟨dr, O0, wd, ds, y, w', h1, h2, h3, h4, h5, h6, k6⟩ := h
    obtain ⟨ρ', e⟩ := denX_some h6
    refine ⟨_, hb cdv A outer s H E hr (fun cls d _ H' => E cls d H') ⟨takes_of rfl rfl rfl rfl, passes_of rfl⟩ ⟨dr, O0, H⟩, ?_⟩
    exact ⟨O0, _, wd, y, ρ', w', start_sr h1 h2 h3 h4, e, fun σ' O' H' cls d S' x' xo => k6 H' cls d S'.base (S'.draw.to (Ex.refl _) (vis_sub S'.sub)) (xo.mono (vis_sub S'.sub))⟩
end
end FD

end sec_XD9
section sec_XD10
set_option maxRecDepth 100000
set_option maxHeartbeats 4000000
/-! XD10: C(..) that raises. -/
namespace FD
open PySem L2
variable [Tabl]
structure XakD (P : Program) (w : World) (K : PySem.W.Frag) (mg : Str → Option Value) (base : Heap) (k : Nat) (cn : Str) (n : Nat) (dd : List D) (den : List D → W → Option (Xn × W)) : Prop where
  ex : ∃ (C f : Addr) (fd : FuncData) (ps : List Str) (ds : List Value) (dvs : List V), Mk K C f ∧ FnOk P w K mg base (L2.CX P w) k f fd ps (spX ⟨K, mg⟩ n den) ∧ mg cn = some (.ref C) ∧ Binds K fd ps ds ∧ Vals dvs ds ∧ ∀ da G, RepAll ⟨K, mg⟩ da G dvs dd
def makX (cn : Str) (den : List D → W → Option (Xn × W)) (dd : List D) (fa : M (List RV)) : M Xn := bindM fa fun rs => bindM (escAll rs) fun ds => runX den (.ins cn [] :: (ds ++ dd))
section
variable {X : Cx} {e : Expr} {es : List Expr} {pos p : Pos} {cn : Str} {k j n : Nat} {dd : List D} {den : List D → W → Option (Xn × W)} {fa : M (List RV)}
/-- what __init__ finds -/
theorem init_spX {F : Fm} {O : List Addr} {ρ : Env} {w w' : W} {σ : L2.St} {H : Hp} {C y dx : Addr} {vs : List V} {ds : List D} {x : Xn} {Q : VK} {E : XK} (S : SR (ct X) F O ρ w σ H) (mc : X.mg cn = some (.ref C)) (ny : H y = none) (ndx : H dx = none) (ne : dx ≠ y)
    (hr : RepAll (ct X) F.dr.da (vis O H) vs ds) (hn : (D.ins cn [] :: ds).length = n) (hd : den (.ins cn [] :: ds) w = some (x, w'))
    (q : ∀ H' cls d, SR (ct X) F O ρ w' σ H' → Ex (vis O H) (vis O H') → XO (ct X) F.dr.da O H' x cls d → E cls d H') : spX (ct X) n den (.ref y :: vs) (upd (upd H dx (.own y)) y (.ins C dx [])) Q E := by
  have x3 : Ex H (upd (upd H dx (.own y)) y (.ins C dx [])) := fun a o h => by
    rw [upd_ne (ne_of_none h ny), upd_ne (ne_of_none h ndx)]
    exact h
  have nO : y ∉ O := fun z => by
    obtain ⟨o, q, _⟩ := S.trk y z
    rw [ny] at q
    cases q
  refine spX_of (S.grow x3) (.cons (.ins (C := C) (dx := dx) (fs := []) ?_ mc .nil) (hr.mono (vis_mono x3))) hn hd fun H' cls d S' x' xo => q H' cls d S' ((vis_mono x3).trans x') xo
  rw [vis_out nO]
  exact upd_same
theorem fxe_make (cl : XakD X.prog X.w X.K X.mg X.base k cn n dd den) (hr : Room j X.A) (hg : Gl X cn) (ha : FA X (e :: es) fa) (hk : k + 1 ≤ j := by decide) (hn : (e :: es).length + dd.length + 1 = n := by rfl)
    (hdb : NotDebug cn := by decide) (he : Plain1 X e es := by rfl) (hpl : PlainR X es pos := by rfl) : FXE X (.Call (.Name cn p) (e :: es) [] pos) (makX cn den dd fa) := fun W xc F => by
  obtain ⟨C, f, fd, ps, ds, dvs, M, FO, hm, b, d, rd⟩ := cl.ex
  refine ⟨fun pins s σ H Q I q => ?_⟩
  obtain ⟨O, ρ, w, y, ρ', w', S, ey, kk⟩ := q
  have ta : tA (ct X) F fa σ H fun vs H1 => ∀ y dx, H1 y = none → H1 dx = none → dx ≠ y → spX (ct X) n den (.ref y :: (vs ++ dvs)) (upd (upd H1 dx (.own y)) y (.ins C dx [])) (fun v H2 => v = .non ∧ Q (.ref y) H2) (WE W σ) := by
    refine tA_then S ey fun vs O1 ρ1 w1 H1 rs S1 e1 R1 f1 h1 => ?_
    obtain ⟨ds1, ρ2, w2, h2, h3⟩ := bindM_some h1
    obtain ⟨rfl, O2, S2, k2, r2⟩ := escAll_ok S1 R1 h2
    obtain ⟨h4, rfl⟩ := runX_some h3
    intro y dx ny ndx ne
    refine init_spX S2 hm ny ndx ne (r2.append (rd _ _)) ?_ h4 fun H' cls d S' x' xo => kk O2 H' cls d S' ((e1.trans k2).trans x') xo
    rw [List.length_cons, List.length_append, r2.len2, ← R1.length, ha.len _ _ _ _ _ f1]
    exact hn
  refine wpAny_Call_Name_kw (ld_glob I hg hm ?_ hdb)
  exact PySem.W.callWith_K (h₀ := X.base) I.ok.mod.kin M.kp (thn ((ha.run F).run pos pins s σ H _ I ta) fun us s1 ⟨vs, H1, I1, r, q1⟩ => ⟨I1.kIn, run_new1 M FO (hr.mono hk) b d xc.tk I1 r q1⟩) he hpl
end
end FD

end sec_XD10
section sec_Dens
set_option maxRecDepth 100000
set_option maxHeartbeats 4000000
/-! printed by gen.py: the denotations -/
namespace KL
open PySem L2 FD
noncomputable section
variable [Tabl]
def bt_list : String → Bool := fun T => T == "list"
def ic_list : List (Str × Bool) := [("Scheme", false)]
def bt_Scheme : String → Bool := fun T => false
def ic_Scheme : List (Str × Bool) := [("Scheme", true)]
def bt_list_tuple : String → Bool := fun T => T == "list" || T == "tuple"
def ic_list_tuple : List (Str × Bool) := [("Scheme", false)]
def bt_tuple : String → Bool := fun T => T == "tuple"
def ic_tuple : List (Str × Bool) := [("Scheme", false)]
def bt_str : String → Bool := fun T => T == "str"
def ic_str : List (Str × Bool) := [("Scheme", false)]
def bt_BadDependence : String → Bool := fun T => false
def ic_BadDependence : List (Str × Bool) := [("Scheme", false)]
def bt_BadColumns : String → Bool := fun T => false
def ic_BadColumns : List (Str × Bool) := [("Scheme", false)]
def bt_ValueError : String → Bool := fun T => T == "ValueError"
def ic_ValueError : List (Str × Bool) := [("Scheme", false)]
def bt_TooMany : String → Bool := fun T => false
def ic_TooMany : List (Str × Bool) := [("Scheme", false)]
def xs_MeanError : List Str := ["BadColumns", "BadDependence"]
def xi_BadColumns : List (Str × Bool) := [("BadColumns", true), ("BadDependence", false)]
def xi_BadDependence : List (Str × Bool) := [("BadColumns", false), ("BadDependence", true)]
def xi_TooMany : List (Str × Bool) := [("BadColumns", false), ("BadDependence", false)]
def xi_ValueError : List (Str × Bool) := [("BadColumns", true), ("BadDependence", true)]
def xf_at : List Str := ["BadDependence"]
def xf_given : List Str := ["BadColumns"]
def icq_Scheme : List (Str × Bool) := [("Scheme", true)]
def d1_law_begun : M Fl := (setM' 1 (lcM (bindM (varM 0) iterM) [2] (gNameM 2) (boolM (op2M geD (bM absD (consA (varM 2) (pureM []))) (op2M (intD powI) (pureM (.sh (.int 10))) (pureM (.sh (.int 18)))))) (op2M subD (bM absD (consA (varM 2) (pureM []))) (op2M (intD powI) (pureM (.sh (.int 10))) (pureM (.sh (.int 18)))))))
def d2_law_begun : M RV := (lcM (bindM (varM 0) iterM) [2] (gNameM 2) (pureM true) (op2M (intD modI) (bM intFD (consA (bM absD (consA (varM 2) (pureM []))) (pureM []))) (pureM (.sh (.int 2147483629)))))
def beg : List Int → Option (List Int × List Int) := begD 3 d1_law_begun d2_law_begun 1
def d_rises : M Fl := (retM (bM allD (consA (lcM (bindM (consA (op2M subD (bM lenD (consA (varM 0) (pureM []))) (pureM (.sh (.int 1)))) (pureM [])) rangeM) [1] (gNameM 1) (pureM true) (op2M ltD (op2M ixD (varM 0) (varM 1)) (op2M ixD (varM 0) (op2M addD (varM 1) (pureM (.sh (.int 1))))))) (pureM []))))
abbrev D_rises : List D → W → Option (RV × W) := denB 2 d_rises
def d_is_set : M Fl := (retM (andM (isiM bt_str ic_str (varM 1)) (andM (callM D_rises [] (consA (varM 1) (pureM []))) (bM allD (consA (lcM (bindM (varM 1) iterM) [2] (gNameM 2) (pureM true) (op2M (inS false) (varM 2) (op2M addD (varM 0) (pureM (.sh (.str "r")))))) (pureM []))))))
abbrev D_is_set : List D → W → Option (RV × W) := denB 3 d_is_set
def d_is_dependence : M Fl := (seqM (ifM (orT (notT (boolM (isiM bt_tuple ic_tuple (varM 1)))) (orT (boolM (op2M neD (bM lenD (consA (varM 1) (pureM []))) (pureM (.sh (.int 2))))) (notT (boolM (callM D_is_set [] (consA (varM 0) (consA (op2M ixD (varM 1) (pureM (.sh (.int 0)))) (pureM [])))))))) (retM (pureM (.sh (.bl false)))) (pureM .nx))
  (retM (andM (callM D_is_set [] (consA (varM 0) (consA (op2M ixD (varM 1) (pureM (.sh (.int 1)))) (pureM [])))) (op2M eqD (bM lenD (consA (op2M ixD (varM 1) (pureM (.sh (.int 1)))) (pureM []))) (pureM (.sh (.int 1)))))))
abbrev D_is_dependence : List D → W → Option (RV × W) := denB 2 d_is_dependence
def d_need_dependences : M Fl := (seqM (ifM (notT (boolM (isiM bt_list_tuple ic_list_tuple (varM 1)))) failM (pureM .nx))
  (forM (enumM (varM 1)) (gTupM (gConsM (gNameM 2) (gConsM (gNameM 3) gNilM)))
   (ifM (orT (boolM (op2M eqD (varM 2) (pureM (.sh (.int 20))))) (notT (boolM (callM D_is_dependence [] (consA (varM 0) (consA (varM 3) (pureM []))))))) failM (pureM .nx))))
abbrev D_need_dependences : List D → W → Option (RV × W) := denB 4 d_need_dependences
def x_need_dependences : M Xn := (alt (ifX (notT (boolM (isiM bt_list_tuple ic_list_tuple (varM 1)))) (raiseX "BadDependence" "at" (consA (pureM (.sh .non)) (pureM []))) failM) (seqX (ifM (notT (boolM (isiM bt_list_tuple ic_list_tuple (varM 1)))) failM (pureM .nx))
  (forX (enumM (varM 1)) (gTupM (gConsM (gNameM 2) (gConsM (gNameM 3) gNilM)))
   (ifM (orT (boolM (op2M eqD (varM 2) (pureM (.sh (.int 20))))) (notT (boolM (callM D_is_dependence [] (consA (varM 0) (consA (varM 3) (pureM []))))))) failM (pureM .nx))
   (ifX (orT (boolM (op2M eqD (varM 2) (pureM (.sh (.int 20))))) (notT (boolM (callM D_is_dependence [] (consA (varM 0) (consA (varM 3) (pureM []))))))) (raiseX "BadDependence" "at" (consA (varM 2) (pureM []))) failM))))
abbrev X_need_dependences : List D → W → Option (Xn × W) := denX 4 x_need_dependences
def d_is_columns : M Fl := (seqM (ifM (orT (notT (boolM (isiM bt_str ic_str (varM 0)))) (orT (boolM (op2M eqD (varM 0) (pureM (.sh (.str ""))))) (notT (boolM (callM D_rises [] (consA (varM 0) (pureM []))))))) (retM (pureM (.sh (.bl false)))) (pureM .nx))
  (retM (bM allD (consA (lcM (bindM (varM 0) iterM) [1] (gNameM 1) (pureM true) (op2M (inS false) (varM 1) (pureM (.sh (.str "abcd"))))) (pureM [])))))
abbrev D_is_columns : List D → W → Option (RV × W) := denB 2 d_is_columns
def d_need_columns : M Fl := (ifM (notT (boolM (callM D_is_columns [] (consA (varM 0) (pureM []))))) failM (pureM .nx))
abbrev D_need_columns : List D → W → Option (RV × W) := denB 1 d_need_columns
def x_need_columns : M Xn := (ifX (notT (boolM (callM D_is_columns [] (consA (varM 0) (pureM []))))) (raiseX "BadColumns" "given" (consA (varM 0) (pureM []))) failM)
abbrev X_need_columns : List D → W → Option (Xn × W) := denX 1 x_need_columns
def d_Scheme_init : MJ := (jExpr (callM D_need_columns [] (consA (varM 1) (pureM [])))
  (jExpr (callM D_need_dependences [] (consA (varM 1) (consA (varM 2) (pureM []))))
  (jFld "own_columns" (varM 1)
  (jFld "own_dependences" (bM tupD (consA (varM 2) (pureM [])))
  (fun gs => pureM gs)))))
abbrev I_Scheme : List D → W → Option (List (Str × D) × W) := denI 3 d_Scheme_init
def x_Scheme_init : M Xn := (alt (callX X_need_columns [] (consA (varM 1) (pureM []))) (seqX (exprM (callM D_need_columns [] (consA (varM 1) (pureM []))))
  (callX X_need_dependences [] (consA (varM 1) (consA (varM 2) (pureM []))))))
abbrev X_Scheme_init : List D → W → Option (Xn × W) := denX 3 x_Scheme_init
def d_sets_of : M Fl := (seqM (setM' 1 (lstM (consA (pureM (.sh (.str ""))) (pureM []))))
  (seqM (forM (bindM (op2M addD (varM 0) (pureM (.sh (.str "r")))) iterM) (gNameM 2)
   (setM' 1 (op2M addD (varM 1) (lcM (bindM (varM 1) iterM) [3] (gNameM 3) (pureM true) (op2M addD (varM 3) (varM 2))))))
  (retM (sortM SK.byLen (varM 1)))))
abbrev D_sets_of : List D → W → Option (RV × W) := denB 4 d_sets_of
def d_within : M Fl := (retM (bM allD (consA (lcM (bindM (varM 0) iterM) [2] (gNameM 2) (pureM true) (op2M (inS false) (varM 2) (varM 1))) (pureM []))))
abbrev D_within : List D → W → Option (RV × W) := denB 3 d_within
def d_joined : M Fl := (retM (strM joinD (pureM (.sh (.str ""))) (ssetM (op2M addD (varM 0) (varM 1)))))
abbrev D_joined : List D → W → Option (RV × W) := denB 2 d_joined
def d_closure_of : M Fl := (seqM (parSt [3, 4] (pend1 (varM 2) (pend1 (pureM (.sh .non)) (pureM []))))
  (seqM (whileM (boolM (op2M neD (varM 3) (varM 4))) (seqM (setM' 4 (varM 3))
  (seqM (ifM (boolM (op2M (inS false) (pureM (.sh (.str "r"))) (varM 3))) (setM' 3 (callM D_joined [] (consA (varM 3) (consA (varM 0) (pureM []))))) (pureM .nx))
  (forM (bindM (varM 1) iterM) (gTupM (gConsM (gNameM 5) (gConsM (gNameM 6) gNilM)))
   (ifM (boolM (callM D_within [] (consA (varM 5) (consA (varM 3) (pureM []))))) (setM' 3 (callM D_joined [] (consA (varM 3) (consA (varM 6) (pureM []))))) (pureM .nx))))) 1000000)
  (retM (varM 3))))
abbrev D_closure_of : List D → W → Option (RV × W) := denB 7 d_closure_of
def d_need_set : M Fl := (ifM (notT (boolM (callM D_is_set [] (consA (varM 0) (consA (varM 1) (pureM [])))))) failM (pureM .nx))
abbrev D_need_set : List D → W → Option (RV × W) := denB 2 d_need_set
def d_Scheme_closure : M Fl := (seqM (exprM (callM D_need_set [] (consA (op1M (fldD "Scheme" "own_columns") (varM 0)) (consA (varM 1) (pureM [])))))
  (retM (callM D_closure_of [] (consA (op1M (fldD "Scheme" "own_columns") (varM 0)) (consA (op1M (fldD "Scheme" "own_dependences") (varM 0)) (consA (varM 1) (pureM [])))))))
abbrev D_Scheme_closure : List D → W → Option (RV × W) := denB 2 d_Scheme_closure
def d_Scheme_closed_sets : M Fl := (retM (lcM (bindM (callM D_sets_of [] (consA (op1M (fldD "Scheme" "own_columns") (varM 0)) (pureM []))) iterM) [1] (gNameM 1) (boolM (op2M eqD (methM "Scheme" "closure" D_Scheme_closure [] (varM 0) (consA (varM 1) (pureM []))) (varM 1))) (varM 1)))
abbrev D_Scheme_closed_sets : List D → W → Option (RV × W) := denB 2 d_Scheme_closed_sets
def d_Scheme_eq : M Fl := (seqM (ifM (orT (notT (boolM (isiM bt_Scheme ic_Scheme (varM 1)))) (boolM (op2M neD (op1M (fldD "Scheme" "own_columns") (varM 0)) (op1M (fldD "Scheme" "own_columns") (varM 1))))) (retM (pureM (.sh (.bl false)))) (pureM .nx))
  (retM (op2M eqD (meth0M "Scheme" "closed_sets" D_Scheme_closed_sets [] (varM 0)) (meth0M "Scheme" "closed_sets" D_Scheme_closed_sets [] (varM 1)))))
abbrev D_Scheme_eq : List D → W → Option (RV × W) := denB 2 d_Scheme_eq
def d_Scheme_dependences : M Fl := (retM (op1M (fldD "Scheme" "own_dependences") (varM 0)))
abbrev D_Scheme_dependences : List D → W → Option (RV × W) := denB 1 d_Scheme_dependences
def d_Scheme_columns : M Fl := (retM (op1M (fldD "Scheme" "own_columns") (varM 0)))
abbrev D_Scheme_columns : List D → W → Option (RV × W) := denB 1 d_Scheme_columns
def d_law_told : M Fl := (seqM (asgSt (tupM (consA (pureM (.sh .non)) (consA (pureM (.sh .non)) (pureM [])))) (gTupM (gConsM (gNameM 2) (gConsM (gNameM 3) gNilM))))
  (seqM (tryM xs_MeanError 4 2 (setM' 3 (makM "Scheme" I_Scheme [] (consA (varM 0) (consA (varM 1) (pureM []))))) (makX "Scheme" X_Scheme_init [] (consA (varM 0) (consA (varM 1) (pureM [])))))
  (seqM (ifM (boolM (op1M (isNonD false) (varM 2))) (retM (varM 3)) (pureM .nx))
  (seqM (ifM (orT (boolM (alt (isiM bt_TooMany ic_TooMany (varM 2)) (op1M (isxD xi_TooMany) (varM 2)))) (notT (boolM (alt (isiM bt_ValueError ic_ValueError (varM 2)) (op1M (isxD xi_ValueError) (varM 2)))))) (retM (lstM (consA (pureM (.sh (.str "other"))) (consA (pureM (.sh .non)) (pureM []))))) (pureM .nx))
  (seqM (ifM (boolM (alt (isiM bt_BadColumns ic_BadColumns (varM 2)) (op1M (isxD xi_BadColumns) (varM 2)))) (retM (lstM (consA (pureM (.sh (.str "columns"))) (consA (op1M (xfD xf_given "given") (varM 2)) (pureM []))))) (pureM .nx))
  (retM (ifM (boolM (alt (isiM bt_BadDependence ic_BadDependence (varM 2)) (op1M (isxD xi_BadDependence) (varM 2)))) (lstM (consA (pureM (.sh (.str "dependence"))) (consA (op1M (xfD xf_at "at") (varM 2)) (pureM [])))) (lstM (consA (pureM (.sh (.str "other"))) (consA (pureM (.sh .non)) (pureM [])))))))))))
abbrev D_law_told : List D → W → Option (RV × W) := denB 5 d_law_told
def d_law_is_rising : M Fl := (seqM (ifM (orT (notT (boolM (isiM bt_str ic_str (varM 0)))) (boolM (op2M neD (lcM (bindM (varM 0) iterM) [2] (gNameM 2) (boolM (op2M (inS true) (varM 2) (varM 1))) (varM 2)) (lstM (pureM []))))) (retM (pureM (.sh (.bl false)))) (pureM .nx))
  (retM (op2M eqD (strM joinD (pureM (.sh (.str ""))) (ssetM (varM 0))) (varM 0))))
abbrev D_law_is_rising : List D → W → Option (RV × W) := denB 3 d_law_is_rising
def d_law_is_tie : M Fl := (seqM (ifM (orT (notT (boolM (isiM bt_tuple ic_tuple (varM 1)))) (orT (boolM (op2M neD (bM lenD (consA (varM 1) (pureM []))) (pureM (.sh (.int 2))))) (notT (boolM (callM D_law_is_rising [] (consA (op2M ixD (varM 1) (pureM (.sh (.int 0)))) (consA (op2M addD (varM 0) (pureM (.sh (.str "r")))) (pureM [])))))))) (retM (pureM (.sh (.bl false)))) (pureM .nx))
  (retM (andM (callM D_law_is_rising [] (consA (op2M ixD (varM 1) (pureM (.sh (.int 1)))) (consA (op2M addD (varM 0) (pureM (.sh (.str "r")))) (pureM [])))) (op2M eqD (bM lenD (consA (op2M ixD (varM 1) (pureM (.sh (.int 1)))) (pureM []))) (pureM (.sh (.int 1)))))))
abbrev D_law_is_tie : List D → W → Option (RV × W) := denB 2 d_law_is_tie
def d_law_due : M Fl := (seqM (ifM (orT (notT (boolM (callM D_law_is_rising [] (consA (varM 0) (consA (pureM (.sh (.str "abcd"))) (pureM [])))))) (boolM (op2M eqD (varM 0) (pureM (.sh (.str "")))))) (retM (lstM (consA (pureM (.sh (.str "columns"))) (consA (varM 0) (pureM []))))) (pureM .nx))
  (seqM (ifM (notT (boolM (isiM bt_list_tuple ic_list_tuple (varM 1)))) (retM (lstM (consA (pureM (.sh (.str "dependence"))) (consA (pureM (.sh .non)) (pureM []))))) (pureM .nx))
  (seqM (forM (enumM (varM 1)) (gTupM (gConsM (gNameM 2) (gConsM (gNameM 3) gNilM)))
   (ifM (orT (boolM (op2M eqD (varM 2) (pureM (.sh (.int 20))))) (notT (boolM (callM D_law_is_tie [] (consA (varM 0) (consA (varM 3) (pureM []))))))) (retM (lstM (consA (pureM (.sh (.str "dependence"))) (consA (varM 2) (pureM []))))) (pureM .nx)))
  (retM (pureM (.sh .non))))))
abbrev D_law_due : List D → W → Option (RV × W) := denB 4 d_law_due
def d_law_mixed : M Fl := (seqM (parSt [1, 2] (pend1 (op2M addD (drI W.turn (varM 0)) (pureM (.sh (.int 1)))) (pend1 (pureM (.sh (.int 0))) (pureM []))))
  (seqM (drSet (fun w i => { w with turn := i }) (varM 1) (varM 0))
  (seqM (forM (bindM (lstM (consA (pureM (.sh (.int 2147483629))) (consA (pureM (.sh (.int 2147483587))) (consA (pureM (.sh (.int 2147483579))) (consA (pureM (.sh (.int 2147483563))) (pureM [])))))) iterM) (gNameM 3)
   (seqM (setM' 4 (op2M addD (op2M mulD (pureM (.sh (.int 61441))) (varM 1)) (op2M (intD fdivI) (varM 3) (pureM (.sh (.int 19))))))
  (seqM (forM (drC (varM 0)) (gNameM 5)
   (setM' 4 (op2M (intD modI) (bM intFD (consA (op2M addD (op2M addD (op2M mulD (varM 4) (pureM (.sh (.int 48271)))) (varM 5)) (varM 1)) (pureM []))) (varM 3))))
  (setM' 2 (op2M addD (op2M mulD (varM 2) (pureM (.sh (.int 2147483647)))) (op2M (intD modI) (bM intFD (consA (op2M (intD powI) (varM 4) (pureM (.sh (.int 5)))) (pureM []))) (varM 3)))))))
  (retM (varM 2)))))
abbrev D_law_mixed : List D → W → Option (RV × W) := denB 6 d_law_mixed
def d_law_take : M Fl := (seqM (ifM (boolM (op2M eqD (drI W.rest (varM 0)) (pureM (.sh (.int 0))))) (drSet (fun w i => { w with rest := i }) (ifM (drT (fun w => !w.wide.isEmpty) (varM 0)) (drPop (varM 0)) (callM D_law_mixed [] (consA (varM 0) (pureM [])))) (varM 0)) (pureM .nx))
  (seqM (setM' 2 (op2M (intD modI) (bM intFD (consA (drI W.rest (varM 0)) (pureM []))) (varM 1)))
  (seqM (drSet (fun w i => { w with rest := i }) (op2M (intD fdivI) (drI W.rest (varM 0)) (varM 1)) (varM 0))
  (retM (varM 2)))))
abbrev D_law_take : List D → W → Option (RV × W) := denB 3 d_law_take
def d_law_pick : M Fl := (retM (op2M ixD (varM 1) (callM D_law_take [] (consA (varM 0) (consA (bM lenD (consA (varM 1) (pureM []))) (pureM []))))))
abbrev D_law_pick : List D → W → Option (RV × W) := denB 2 d_law_pick
def d_law_odd : M Fl := (seqM (setM' 1 (lstM (consA (pureM (.sh .non)) (consA (pureM (.sh (.bl true))) (consA (pureM (.sh (.bl false))) (consA (op1M negD (pureM (.sh (.int 1)))) (consA (op1M negD (pureM (.sh (.int 7)))) (consA (op2M (intD powI) (pureM (.sh (.int 10))) (pureM (.sh (.int 40)))) (consA (pureM (.sh (.str ""))) (consA (pureM (.sh (.str "a"))) (consA (pureM (.sh (.str "z"))) (consA (pureM (.sh (.str "ba"))) (consA (pureM (.sh (.str "aa"))) (consA (pureM (.sh (.str "R"))) (consA (tupM (pureM [])) (consA (tupM (consA (pureM (.sh (.int 0))) (pureM []))) (consA (tupM (consA (pureM (.sh (.str "a"))) (consA (pureM (.sh (.str "b"))) (pureM [])))) (consA (lstM (pureM [])) (consA (lstM (consA (pureM (.sh (.int 1))) (pureM []))) (consA (pureM (.fr (.dic []))) (consA (pureM (.sh (.int 0))) (consA (pureM (.sh (.int 7))) (pureM [])))))))))))))))))))))))
  (seqM (setM' 1 (op2M addD (varM 1) (lstM (consA (lstM (consA (lstM (pureM [])) (pureM []))) (consA (tupM (consA (pureM (.sh (.bl true))) (pureM []))) (consA (tupM (consA (pureM (.sh (.int 0))) (consA (pureM (.sh .non)) (pureM [])))) (consA (pureM (.sh (.str "1"))) (consA (tupM (consA (pureM (.sh (.str ""))) (pureM []))) (consA (op1M negD (op2M (intD powI) (pureM (.sh (.int 10))) (pureM (.sh (.int 20))))) (consA (tupM (consA (pureM (.sh (.int 1))) (consA (pureM (.sh (.int 1))) (pureM [])))) (consA (pureM (.sh (.str "abcdr"))) (consA (pureM (.sh (.str "abr "))) (consA (pureM (.fr (.dic [(.str "a", .int 1)]))) (pureM []))))))))))))))
  (retM (callM D_law_pick [] (consA (varM 0) (consA (varM 1) (pureM [])))))))
abbrev D_law_odd : List D → W → Option (RV × W) := denB 2 d_law_odd
def d_law_bent : M Fl := (seqM (ifM (orT (boolM (op2M eq0D (varM 2) (lstM (pureM [])))) (boolM (op2M eqD (callM D_law_take [] (consA (varM 0) (consA (pureM (.sh (.int 5))) (pureM [])))) (pureM (.sh (.int 0)))))) (retM (callT D_law_pick 0 (pend1 (pureM (.sh .non)) (pend1 (pureM (.sh (.int 5))) (pend1 (pureM (.sh (.str "ab"))) (pend1 (shM (pureM (.fr (.dic [])))) (pend1 (op2M addD (varM 2) (lstM (consA (callM D_law_odd [] (consA (varM 0) (pureM []))) (pureM [])))) (pend1 (shM (pureM (.fr (.dit [(.tup [.str "a", .str "r"], .int 1)])))) (pureM []))))))))) (pureM .nx))
  (seqM (parSt [3, 4] (pend1 (callM D_law_take [] (consA (varM 0) (consA (bM lenD (consA (varM 2) (pureM []))) (pureM [])))) (pend1 (bM listD (consA (varM 2) (pureM []))) (pureM []))))
  (seqM (asgSt (op2M ixD (varM 4) (varM 3)) (gTupM (gConsM (gNameM 5) (gConsM (gNameM 6) gNilM))))
  (seqM (setM' 7 (callM D_law_odd [] (consA (varM 0) (pureM []))))
  (seqM (setM' 8 (lstM (consA (tupM (consA (varM 5) (consA (varM 6) (consA (pureM (.sh (.str "a"))) (pureM []))))) (consA (lstM (consA (varM 5) (consA (varM 6) (pureM [])))) (consA (tupM (consA (varM 5) (pureM []))) (consA (tupM (consA (varM 7) (consA (varM 6) (pureM [])))) (consA (tupM (consA (varM 5) (consA (varM 7) (pureM [])))) (consA (tupM (consA (varM 5) (consA (pureM (.sh (.str ""))) (pureM [])))) (consA (tupM (consA (varM 5) (consA (pureM (.sh (.str "ab"))) (pureM [])))) (pureM []))))))))))
  (seqM (setM' 8 (op2M addD (varM 8) (lstM (consA (tupM (consA (op2M addD (varM 5) (pureM (.sh (.str "r")))) (consA (varM 6) (pureM [])))) (consA (tupM (consA (op2M addD (pureM (.sh (.str "r"))) (varM 5)) (consA (varM 6) (pureM [])))) (consA (tupM (consA (varM 5) (consA (op2M addD (varM 6) (varM 6)) (pureM [])))) (consA (tupM (consA (op2M addD (varM 5) (varM 5)) (consA (varM 6) (pureM [])))) (consA (varM 7) (pureM [])))))))))
  (seqM (setM' 8 (op2M addD (op2M addD (varM 8) (lcM (bindM (lstM (consA (pureM (.sh (.str "a"))) (consA (pureM (.sh (.str "b"))) (consA (pureM (.sh (.str "c"))) (consA (pureM (.sh (.str "d"))) (consA (pureM (.sh (.str "ad"))) (consA (pureM (.sh (.str "z"))) (pureM [])))))))) iterM) [9] (gNameM 9) (pureM true) (tupM (consA (varM 9) (consA (varM 6) (pureM [])))))) (lcM (bindM (pureM (.sh (.str "abcdz"))) iterM) [9] (gNameM 9) (pureM true) (tupM (consA (varM 5) (consA (varM 9) (pureM [])))))))
  (seqM (lputM 4 (callM D_law_pick [] (consA (varM 0) (consA (varM 8) (pureM [])))) (varM 3))
  (retM (varM 4))))))))))
abbrev D_law_bent : List D → W → Option (RV × W) := denB 10 d_law_bent
def d_law_letters : M Fl := (retM (strM joinD (pureM (.sh (.str ""))) (lcM (bindM (varM 1) iterM) [2] (gNameM 2) (boolM (op2M eqD (callM D_law_take [] (consA (varM 0) (consA (pureM (.sh (.int 2))) (pureM [])))) (pureM (.sh (.int 0))))) (varM 2))))
abbrev D_law_letters : List D → W → Option (RV × W) := denB 3 d_law_letters
def d_law_columns : M Fl := (seqM (parSt [2, 3] (pend1 (bM listD (consA (pureM (.sh (.str "abcd"))) (pureM []))) (pend1 (op2M addD (pureM (.sh (.int 1))) (callM D_law_take [] (consA (varM 0) (consA (varM 1) (pureM []))))) (pureM []))))
  (seqM (whileM (boolM (op2M gtD (bM lenD (consA (varM 2) (pureM []))) (varM 3))) (exprM (popM 2 (callM D_law_take [] (consA (varM 0) (consA (bM lenD (consA (varM 2) (pureM []))) (pureM [])))))) 1000000)
  (retM (strM joinD (pureM (.sh (.str ""))) (varM 2)))))
abbrev D_law_columns : List D → W → Option (RV × W) := denB 4 d_law_columns
def d_law_drawn : M Fl := (seqM (parSt [3, 4] (pend1 (callM D_law_columns [] (consA (varM 0) (consA (varM 1) (pureM [])))) (pend1 (lstM (pureM [])) (pureM []))))
  (seqM (forM (bindM (consA (callM D_law_pick [] (consA (varM 0) (consA (lstM (consA (pureM (.sh (.int 0))) (consA (pureM (.sh (.int 0))) (consA (pureM (.sh (.int 1))) (consA (pureM (.sh (.int 2))) (consA (callM D_law_take [] (consA (varM 0) (consA (op2M addD (varM 2) (pureM (.sh (.int 1)))) (pureM [])))) (pureM []))))))) (pureM [])))) (pureM [])) rangeM) (gNameM 5)
   (seqM (setM' 6 (callM D_law_letters [] (consA (varM 0) (consA (op2M addD (varM 3) (pureM (.sh (.str "r")))) (pureM [])))))
  (seqM (ifM (andT (boolM (op2M eqD (varM 6) (pureM (.sh (.str ""))))) (boolM (op2M gtD (callM D_law_take [] (consA (varM 0) (consA (pureM (.sh (.int 4))) (pureM [])))) (pureM (.sh (.int 0)))))) (setM' 6 (callM D_law_pick [] (consA (varM 0) (consA (bM listD (consA (varM 3) (pureM []))) (pureM []))))) (pureM .nx))
  (exprM (appM 4 (tupM (consA (varM 6) (consA (callM D_law_pick [] (consA (varM 0) (consA (bM listD (consA (op2M addD (varM 3) (pureM (.sh (.str "r")))) (pureM []))) (pureM [])))) (pureM [])))))))))
  (retM (tupM (consA (varM 3) (consA (bM tupD (consA (slM (varM 4) (pureM none) (partM (varM 2))) (pureM []))) (pureM [])))))))
abbrev D_law_drawn : List D → W → Option (RV × W) := denB 7 d_law_drawn
def d_law : M Fl := (seqM (forM (bindM (consA (op2M addD (pureM (.sh (.int 4))) (bM minD (consA (bM lenD (consA (varM 0) (pureM []))) (consA (pureM (.sh (.int 16))) (pureM []))))) (pureM [])) rangeM) (gNameM 2)
   (seqM (asgSt (callM D_law_drawn [] (consA (varM 1) (consA (pureM (.sh (.int 4))) (consA (pureM (.sh (.int 6))) (pureM []))))) (gTupM (gConsM (gNameM 7) (gConsM (gNameM 3) gNilM))))
  (seqM (setM' 3 (bM listD (consA (varM 3) (pureM []))))
  (seqM (ifM (boolM (op2M eqD (callM D_law_take [] (consA (varM 1) (consA (pureM (.sh (.int 6))) (pureM [])))) (pureM (.sh (.int 0))))) (seqM (setM' 3 (op2M repD (op2M addD (varM 3) (lstM (consA (tupM (consA (pureM (.sh (.str "r"))) (consA (op2M ixD (varM 7) (pureM (.sh (.int 0)))) (pureM [])))) (pureM [])))) (pureM (.sh (.int 21)))))
  (setM' 3 (slM (varM 3) (pureM none) (partM (callM D_law_pick [] (consA (varM 1) (consA (lstM (consA (pureM (.sh (.int 19))) (consA (pureM (.sh (.int 20))) (consA (pureM (.sh (.int 21))) (consA (pureM (.sh (.int 22))) (pureM [])))))) (pureM [])))))))) (pureM .nx))
  (seqM (ifM (boolM (op2M eqD (callM D_law_take [] (consA (varM 1) (consA (pureM (.sh (.int 2))) (pureM [])))) (pureM (.sh (.int 0))))) (setM' 3 (callM D_law_bent [] (consA (varM 1) (consA (varM 7) (consA (varM 3) (pureM [])))))) (pureM .nx))
  (seqM (ifM (boolM (op2M eqD (callM D_law_take [] (consA (varM 1) (consA (pureM (.sh (.int 4))) (pureM [])))) (pureM (.sh (.int 0))))) (setM' 7 (callM D_law_pick [] (consA (varM 1) (consA (lstM (consA (op1M revS (varM 7)) (consA (op2M addD (varM 7) (pureM (.sh (.str "a")))) (consA (op2M addD (varM 7) (pureM (.sh (.str "r")))) (consA (pureM (.sh (.str ""))) (consA (pureM (.sh (.str "abcde"))) (consA (pureM (.sh (.str "A"))) (consA (callM D_law_odd [] (consA (varM 1) (pureM []))) (pureM []))))))))) (pureM []))))) (pureM .nx))
  (seqM (parSt [8, 9] (pend1 (alt (showA (callM D_law_due [] (consA (varM 7) (consA (varM 3) (pureM []))))) (callM D_law_due [] (consA (varM 7) (consA (varM 3) (pureM []))))) (pend1 (alt (showA (bM (orN reprS reprQ) (consA (tupM (consA (varM 7) (consA (varM 3) (pureM [])))) (pureM [])))) (bM (orN reprS reprQ) (consA (tupM (consA (varM 7) (consA (varM 3) (pureM [])))) (pureM [])))) (pureM []))))
  (seqM (parSt [10, 11] (pend1 (alt (showA (callM D_law_told [] (consA (varM 7) (consA (varM 3) (pureM []))))) (callM D_law_told [] (consA (varM 7) (consA (varM 3) (pureM []))))) (pend1 (alt (showA (callM D_law_told [] (consA (varM 7) (consA (varM 3) (pureM []))))) (callM D_law_told [] (consA (varM 7) (consA (varM 3) (pureM []))))) (pureM []))))
  (seqM (ifM (boolM (op2M neD (alt (showA (bM (orN reprS reprQ) (consA (tupM (consA (varM 7) (consA (varM 3) (pureM [])))) (pureM [])))) (bM (orN reprS reprQ) (consA (tupM (consA (varM 7) (consA (varM 3) (pureM [])))) (pureM [])))) (varM 9))) (retM (pureM (.sh (.bl false)))) (pureM .nx))
  (seqM (ifM (boolM (op1M (isNonD true) (varM 8))) (seqM (ifM (orT (notT (boolM (isiM bt_list ic_list (varM 10)))) (boolM (op2M neD (bM (orN reprS reprQ) (consA (lstM (consA (varM 10) (consA (varM 11) (pureM [])))) (pureM []))) (bM (orN reprS reprQ) (consA (lstM (consA (varM 8) (consA (varM 8) (pureM [])))) (pureM [])))))) (retM (pureM (.sh (.bl false)))) (pureM .nx))
  (pureM .ct)) (pureM .nx))
  (seqM (ifM (orT (notT (boolM (isiM bt_Scheme ic_Scheme (varM 10)))) (boolM (eqOM "Scheme" icq_Scheme D_Scheme_eq true (varM 10) (varM 11)))) (retM (pureM (.sh (.bl false)))) (pureM .nx))
  (seqM (setM' 4 (shM (makKM "Scheme" [1, 0] I_Scheme (consA (bM tupD (consA (varM 3) (pureM []))) (consA (varM 7) (pureM []))))))
  (seqM (setM' 5 (bM (orN reprS reprQ) (consA (tupM (consA (varM 7) (consA (bM tupD (consA (varM 3) (pureM []))) (pureM [])))) (pureM []))))
  (seqM (ifM (boolM (isiM bt_list ic_list (varM 3))) (seqM (exprM (appM 3 (tupM (consA (pureM (.sh (.str ""))) (consA (pureM (.sh (.str "r"))) (pureM []))))))
  (exprM (pokeM List.reverse 3))) (pureM .nx))
  (seqM (forM (bindM (lstM (consA (varM 10) (consA (varM 11) (consA (varM 4) (pureM []))))) iterM) (gNameM 6)
   (ifM (boolM (op2M neD (bM (orN reprS reprQ) (consA (tupM (consA (propM "Scheme" D_Scheme_columns (varM 6)) (consA (propM "Scheme" D_Scheme_dependences (varM 6)) (pureM [])))) (pureM []))) (varM 5))) (retM (pureM (.sh (.bl false)))) (pureM .nx)))
  (ifM (orT (boolM (op2M neD (propM "Scheme" D_Scheme_dependences (makM "Scheme" I_Scheme [.ktup []] (consA (varM 7) (pureM [])))) (tupM (pureM [])))) (boolM (eqOM "Scheme" icq_Scheme D_Scheme_eq true (makM "Scheme" I_Scheme [.ktup []] (consA (varM 7) (pureM []))) (makM "Scheme" I_Scheme [] (consA (varM 7) (consA (lstM (pureM [])) (pureM []))))))) (retM (pureM (.sh (.bl false)))) (pureM .nx)))))))))))))))))
  (retM (pureM (.sh (.bl true)))))
def law : List Int → Bool := denL 12 beg d_law
/-! defs that the law does not reach -/
/-! from other laws -/
end
end KL

end sec_Dens
section sec_Ders
set_option maxRecDepth 100000
set_option maxHeartbeats 4000000
/-! printed by gen.py: the defs that the law reaches, their denotations and derivations -/
namespace KL
open PySem L2 FD
open PyProof.Rows (envOfC)
def top (i : Nat) : Stmt := PySem.Challenge.pw_meanways_k03_schemes_made.main.body.getD i (.Pass ⟨0, 0, 0, 0⟩)
abbrev s_law_begun : Stmt := top 24
abbrev s_rises : Stmt := top 11
abbrev s_is_set : Stmt := top 14
abbrev s_is_dependence : Stmt := top 16
abbrev s_need_dependences : Stmt := top 17
abbrev s_is_columns : Stmt := top 12
abbrev s_need_columns : Stmt := top 13
abbrev s_Scheme_init : Stmt := inClass (top 22) 0
abbrev s_sets_of : Stmt := top 21
abbrev s_within : Stmt := top 19
abbrev s_joined : Stmt := top 18
abbrev s_closure_of : Stmt := top 20
abbrev s_need_set : Stmt := top 15
abbrev s_Scheme_closure : Stmt := inClass (top 22) 3
abbrev s_Scheme_closed_sets : Stmt := inClass (top 22) 4
abbrev s_Scheme_eq : Stmt := inClass (top 22) 6
abbrev s_Scheme_dependences : Stmt := inClass (top 22) 2
abbrev s_Scheme_columns : Stmt := inClass (top 22) 1
abbrev s_law_told : Stmt := top 36
abbrev s_law_is_rising : Stmt := top 32
abbrev s_law_is_tie : Stmt := top 33
abbrev s_law_due : Stmt := top 34
abbrev s_law_mixed : Stmt := top 25
abbrev s_law_take : Stmt := top 26
abbrev s_law_pick : Stmt := top 27
abbrev s_law_odd : Stmt := top 28
abbrev s_law_bent : Stmt := top 35
abbrev s_law_letters : Stmt := top 30
abbrev s_law_columns : Stmt := top 29
abbrev s_law_drawn : Stmt := top 31
abbrev s_law : Stmt := top 37
abbrev s_BadColumns_init : Stmt := inClass (top 3) 0
theorem sc_BadColumns_init : FnScope ["self", "given"] ["self", "given"] (defScope s_BadColumns_init) := C8.fnScope_by (by decide +kernel)
abbrev s_BadDependence_init : Stmt := inClass (top 5) 0
theorem sc_BadDependence_init : FnScope ["self", "at"] ["self", "at"] (defScope s_BadDependence_init) := C8.fnScope_by (by decide +kernel)
structure Gt [Tabl] (K : PySem.W.Frag) (mg : Str → Option Value) : Prop where
  n_ValueError : mg "ValueError" = none
  n_abs : mg "abs" = none
  n_all : mg "all" = none
  n_enumerate : mg "enumerate" = none
  n_int : mg "int" = none
  n_isinstance : mg "isinstance" = none
  n_len : mg "len" = none
  n_list : mg "list" = none
  n_min : mg "min" = none
  n_range : mg "range" = none
  n_repr : mg "repr" = none
  n_set : mg "set" = none
  n_sorted : mg "sorted" = none
  n_str : mg "str" = none
  n_tuple : mg "tuple" = none
  g_ALL_COLUMNS : GlbD K mg "ALL_COLUMNS" (.str "abcd")
  g_MOST_DEPENDENCES : GlbD K mg "MOST_DEPENDENCES" (.int 20)
  g_ROW : GlbD K mg "ROW" (.str "r")
  f_Scheme_own_columns : FldD K mg "Scheme" "own_columns"
  f_Scheme_own_dependences : FldD K mg "Scheme" "own_dependences"
  i_list : KndD K mg (fun t b => PySem.W.kitOne K t (.type "list") = some b) bt_list ic_list
  i_Scheme : IsiC K mg "Scheme" bt_Scheme ic_Scheme
  i_list_tuple : KndD K mg (fun t b => PySem.W.kitAny K t [.type "list", .type "tuple"] = some b) bt_list_tuple ic_list_tuple
  i_tuple : KndD K mg (fun t b => PySem.W.kitOne K t (.type "tuple") = some b) bt_tuple ic_tuple
  i_str : KndD K mg (fun t b => PySem.W.kitOne K t (.type "str") = some b) bt_str ic_str
  i_BadDependence : IsiC K mg "BadDependence" bt_BadDependence ic_BadDependence
  i_BadColumns : IsiC K mg "BadColumns" bt_BadColumns ic_BadColumns
  i_ValueError : KndD K mg (fun t b => PySem.W.kitOne K t (.type "ValueError") = some b) bt_ValueError ic_ValueError
  i_TooMany : IsiC K mg "TooMany" bt_TooMany ic_TooMany
  xs_MeanError : XcatD K mg "MeanError" xs_MeanError
  xi_BadColumns : IsxC K mg "BadColumns" xi_BadColumns
  xi_BadDependence : IsxC K mg "BadDependence" xi_BadDependence
  xi_TooMany : IsxC K mg "TooMany" xi_TooMany
  xi_ValueError : KxD K mg (fun t b => PySem.W.kitOne K t (.type "ValueError") = some b) xi_ValueError
  xf_at : KfD K mg xf_at "at"
  xf_given : KfD K mg xf_given "given"
section
variable [Tabl] {P : Program} {w : World} {K : PySem.W.Frag} {mg : Str → Option Value} {base : Heap}
/-! _law_begun -/
theorem sc_law_begun : FnScope ["_law_script", "_law_wide", "_law_cell"] ["_law_script"] (defScope s_law_begun) := C8.fnScope_by (by decide +kernel)
theorem ok_law_begun {f : Addr} {fd : FuncData} (G : Gt K mg) (F : Fun K "_law_begun" "_law_begun" s_law_begun f fd) : FnOk P w K mg base CX0 2 f fd ["_law_script"] (spB ⟨K, mg⟩ beg) :=
  have sc := sc_law_begun
  begun_ok (k := 1) (i := 1) F sc rfl rfl (fun cdv A outer s H E hr => (fs_setLc rfl sc.nd (i := 1) rfl rfl rfl (own := [("_law_cell", 2)]) (fi_val (fe_var (i := 0) rfl (by first | exact Or.inl rfl | exact Or.inr (Or.inl rfl) | exact Or.inr (Or.inr rfl)))) (blkOk_by (by show blkC ["_law_script", "_law_wide", "_law_cell"] (defScope s_law_begun) _ [("_law_cell", 2)] = true; decide +kernel)) (fun _ _ _ _ _ => (fg_name (i := 2) sc.nd rfl (by first | exact Or.inl rfl | exact Or.inr rfl))) (fun _ _ _ _ _ => (fts_one (FC.ft (fc_data opD_ge (fe_b bD_abs rfl G.n_abs bo_abs (fa_cons (fe_var (i := 2) rfl (by first | exact Or.inl rfl | exact Or.inr (Or.inl rfl) | exact Or.inr (Or.inr rfl))) fa_nil)) (fe_op opD_pow fe_int fe_int) rfl)))) (fun _ _ _ _ _ => (fe_op opD_sub (fe_b bD_abs rfl G.n_abs bo_abs (fa_cons (fe_var (i := 2) rfl (by first | exact Or.inl rfl | exact Or.inr (Or.inl rfl) | exact Or.inr (Or.inr rfl))) fa_nil)) (fe_op opD_pow fe_int fe_int))))) (fun cdv A outer s H E hr => (fe_lc rfl sc.nd (own := [("_law_cell", 2)]) (fi_val (fe_var (i := 0) rfl (by first | exact Or.inl rfl | exact Or.inr (Or.inl rfl) | exact Or.inr (Or.inr rfl)))) (blkOk_by (by show blkC ["_law_script", "_law_wide", "_law_cell"] (defScope s_law_begun) _ [("_law_cell", 2)] = true; decide +kernel)) (fun _ _ _ _ _ => (fg_name (i := 2) sc.nd rfl (by first | exact Or.inl rfl | exact Or.inr rfl))) (fun _ _ _ _ _ => fts_nil) (fun _ _ _ _ _ => (fe_op opD_mod (fe_ty bD_int rfl G.n_int bo_int (fa_cons (fe_b bD_abs rfl G.n_abs bo_abs (fa_cons (fe_var (i := 2) rfl (by first | exact Or.inl rfl | exact Or.inr (Or.inl rfl) | exact Or.inr (Or.inr rfl))) fa_nil)) fa_nil)) fe_int)))) rfl (by first | exact Or.inl rfl | exact Or.inr (Or.inl rfl) | exact Or.inr (Or.inr rfl)) (by decide +kernel) (by decide +kernel)
/-! rises -/
theorem sc_rises : FnScope ["letters", "at"] ["letters"] (defScope s_rises) := C8.fnScope_by (by decide +kernel)
theorem ok_rises {f : Addr} {fd : FuncData} (G : Gt K mg) (F : Fun K "rises" "rises" s_rises f fd) : FnOk P w K mg base CX0 2 f fd ["letters"] (spD ⟨K, mg⟩ 1 D_rises) :=
  have sc := sc_rises
  def_ok (k := 1) F sc (fun cdv A outer s H E hr => (fss_one (fs_ret (fe_b (bD_all rfl) rfl G.n_all bo_all (fa_cons (fe_lc rfl sc.nd (own := [("at", 1)]) (fi_range1 rfl G.n_range (fa_cons (fe_op opD_sub (fe_b bD_len rfl G.n_len bo_len (fa_cons (fe_var (i := 0) rfl (by first | exact Or.inl rfl | exact Or.inr (Or.inl rfl) | exact Or.inr (Or.inr rfl))) fa_nil)) fe_int) fa_nil)) (blkOk_by (by show blkC ["letters", "at"] (defScope s_rises) _ [("at", 1)] = true; decide +kernel)) (fun _ _ _ _ _ => (fg_name (i := 1) sc.nd rfl (by first | exact Or.inl rfl | exact Or.inr rfl))) (fun _ _ _ _ _ => fts_nil) (fun _ _ _ _ _ => (FC.fe (fc_data opD_lt (fe_ix ixD_ok (fe_var (i := 0) rfl (by first | exact Or.inl rfl | exact Or.inr (Or.inl rfl) | exact Or.inr (Or.inr rfl))) (fe_var (i := 1) rfl (by first | exact Or.inl rfl | exact Or.inr (Or.inl rfl) | exact Or.inr (Or.inr rfl))) (fun _ _ => rfl)) (fe_ix ixD_ok (fe_var (i := 0) rfl (by first | exact Or.inl rfl | exact Or.inr (Or.inl rfl) | exact Or.inr (Or.inr rfl))) (fe_op opD_add (fe_var (i := 1) rfl (by first | exact Or.inl rfl | exact Or.inr (Or.inl rfl) | exact Or.inr (Or.inr rfl))) fe_int) (fun _ _ => rfl)) rfl)))) fa_nil)))))
/-! is_set -/
theorem sc_is_set : FnScope ["columns", "thing", "letter"] ["columns", "thing"] (defScope s_is_set) := C8.fnScope_by (by decide +kernel)
theorem ok_is_set {f : Addr} {fd : FuncData} (G : Gt K mg) (F : Fun K "is_set" "is_set" s_is_set f fd) (c_rises : CalD P w K mg base 2 "rises" 1 [] D_rises) : FnOk P w K mg base CX0 3 f fd ["columns", "thing"] (spD ⟨K, mg⟩ 2 D_is_set) :=
  have sc := sc_is_set
  def_ok (k := 2) F sc (fun cdv A outer s H E hr => (fss_one (fs_ret (fe_and (fe_isi rfl G.n_isinstance (pe_bltn (v := .ty "str") rfl G.n_str PyProof.Rows.boot_str rfl) (.ty _) G.i_str (fe_var (i := 1) rfl (by first | exact Or.inl rfl | exact Or.inr (Or.inl rfl) | exact Or.inr (Or.inr rfl)))) (fe_and (fe_call c_rises hr rfl (fa_cons (fe_var (i := 1) rfl (by first | exact Or.inl rfl | exact Or.inr (Or.inl rfl) | exact Or.inr (Or.inr rfl))) fa_nil)) (fe_one (fe_b (bD_all rfl) rfl G.n_all bo_all (fa_cons (fe_lc rfl sc.nd (own := [("letter", 2)]) (fi_val (fe_var (i := 1) rfl (by first | exact Or.inl rfl | exact Or.inr (Or.inl rfl) | exact Or.inr (Or.inr rfl)))) (blkOk_by (by show blkC ["columns", "thing", "letter"] (defScope s_is_set) _ [("letter", 2)] = true; decide +kernel)) (fun _ _ _ _ _ => (fg_name (i := 2) sc.nd rfl (by first | exact Or.inl rfl | exact Or.inr rfl))) (fun _ _ _ _ _ => fts_nil) (fun _ _ _ _ _ => (FC.fe (fc_data opD_in (fe_var (i := 2) rfl (by first | exact Or.inl rfl | exact Or.inr (Or.inl rfl) | exact Or.inr (Or.inr rfl))) (fe_op opD_add (fe_var (i := 0) rfl (by first | exact Or.inl rfl | exact Or.inr (Or.inl rfl) | exact Or.inr (Or.inr rfl))) (fe_gl G.g_ROW rfl)) rfl)))) fa_nil))))))))
/-! is_dependence -/
theorem sc_is_dependence : FnScope ["columns", "thing"] ["columns", "thing"] (defScope s_is_dependence) := C8.fnScope_by (by decide +kernel)
theorem ok_is_dependence {f : Addr} {fd : FuncData} (G : Gt K mg) (F : Fun K "is_dependence" "is_dependence" s_is_dependence f fd) (c_is_set : CalD P w K mg base 3 "is_set" 2 [] D_is_set) : FnOk P w K mg base CX0 4 f fd ["columns", "thing"] (spD ⟨K, mg⟩ 2 D_is_dependence) :=
  have sc := sc_is_dependence
  def_ok (k := 3) F sc (fun cdv A outer s H E hr => (fss_cons (fs_if (ft_w (fw_or (ft_not (ft_val (fe_isi rfl G.n_isinstance (pe_bltn (v := .ty "tuple") rfl G.n_tuple PyProof.Rows.boot_tuple rfl) (.ty _) G.i_tuple (fe_var (i := 1) rfl (by first | exact Or.inl rfl | exact Or.inr (Or.inl rfl) | exact Or.inr (Or.inr rfl)))))) (fw_or (FC.ft (fc_data (opD_ne hr) (fe_b bD_len rfl G.n_len bo_len (fa_cons (fe_var (i := 1) rfl (by first | exact Or.inl rfl | exact Or.inr (Or.inl rfl) | exact Or.inr (Or.inr rfl))) fa_nil)) fe_int rfl)) (fw_or1 (ft_not (ft_val (fe_call c_is_set hr rfl (fa_cons (fe_var (i := 0) rfl (by first | exact Or.inl rfl | exact Or.inr (Or.inl rfl) | exact Or.inr (Or.inr rfl))) (fa_cons (fe_ix ixD_ok (fe_var (i := 1) rfl (by first | exact Or.inl rfl | exact Or.inr (Or.inl rfl) | exact Or.inr (Or.inr rfl))) fe_int (fun _ _ => rfl)) fa_nil))))))))) (fss_one (fs_ret fe_bl)) fss_nil)
  (fss_one (fs_ret (fe_and (fe_call c_is_set hr rfl (fa_cons (fe_var (i := 0) rfl (by first | exact Or.inl rfl | exact Or.inr (Or.inl rfl) | exact Or.inr (Or.inr rfl))) (fa_cons (fe_ix ixD_ok (fe_var (i := 1) rfl (by first | exact Or.inl rfl | exact Or.inr (Or.inl rfl) | exact Or.inr (Or.inr rfl))) fe_int (fun _ _ => rfl)) fa_nil))) (fe_one (FC.fe (fc_data (opD_eq hr) (fe_b bD_len rfl G.n_len bo_len (fa_cons (fe_ix ixD_ok (fe_var (i := 1) rfl (by first | exact Or.inl rfl | exact Or.inr (Or.inl rfl) | exact Or.inr (Or.inr rfl))) fe_int (fun _ _ => rfl)) fa_nil)) fe_int rfl))))))))
/-! need_dependences -/
theorem sc_need_dependences : FnScope ["columns", "dependences", "at", "one"] ["columns", "dependences"] (defScope s_need_dependences) := C8.fnScope_by (by decide +kernel)
theorem ok_need_dependences {f : Addr} {fd : FuncData} (G : Gt K mg) (F : Fun K "need_dependences" "need_dependences" s_need_dependences f fd) (c_is_dependence : CalD P w K mg base 4 "is_dependence" 2 [] D_is_dependence) : FnOk P w K mg base CX0 5 f fd ["columns", "dependences"] (spD ⟨K, mg⟩ 2 D_need_dependences) :=
  have sc := sc_need_dependences
  def_ok (k := 4) F sc (fun cdv A outer s H E hr => (fss_cons (fs_if (ft_not (ft_val (fe_isiT rfl G.n_isinstance (pks_cons (pe_bltn (v := .ty "list") rfl G.n_list PyProof.Rows.boot_list rfl) (pks_cons (pe_bltn (v := .ty "tuple") rfl G.n_tuple PyProof.Rows.boot_tuple rfl) pks_nil)) (by decide) (.cons (.ty _) (.cons (.ty _) .nil)) G.i_list_tuple (fe_var (i := 1) rfl (by first | exact Or.inl rfl | exact Or.inr (Or.inl rfl) | exact Or.inr (Or.inr rfl)))))) (fss_one fs_never) fss_nil)
  (fss_one (fs_for PassesOwn.never rfl (fi_enum rfl G.n_enumerate (fe_var (i := 1) rfl (by first | exact Or.inl rfl | exact Or.inr (Or.inl rfl) | exact Or.inr (Or.inr rfl)))) (fg_tup rfl (fgs_cons (fg_name (i := 2) sc.nd rfl (by first | exact Or.inl rfl | exact Or.inr rfl)) (fgs_cons (fg_name (i := 3) sc.nd rfl (by first | exact Or.inl rfl | exact Or.inr rfl)) fgs_nil)) (n := 2) (hg := (gCons_len (gCons_len gNil_len))))
   (fss_one (fs_if (ft_w (fw_or (FC.ft (fc_data (opD_eq hr) (fe_var (i := 2) rfl (by first | exact Or.inl rfl | exact Or.inr (Or.inl rfl) | exact Or.inr (Or.inr rfl))) (fe_gl G.g_MOST_DEPENDENCES rfl) rfl)) (fw_or1 (ft_not (ft_val (fe_call c_is_dependence hr rfl (fa_cons (fe_var (i := 0) rfl (by first | exact Or.inl rfl | exact Or.inr (Or.inl rfl) | exact Or.inr (Or.inr rfl))) (fa_cons (fe_var (i := 3) rfl (by first | exact Or.inl rfl | exact Or.inr (Or.inl rfl) | exact Or.inr (Or.inr rfl))) fa_nil)))))))) (fss_one fs_never) fss_nil))))))
theorem okx_need_dependences {f : Addr} {fd : FuncData} (G : Gt K mg) (F : Fun K "need_dependences" "need_dependences" s_need_dependences f fd) (xx_BadDependence : XcD P w K mg base "BadDependence" "at") (c_is_dependence : CalD P w K mg base 4 "is_dependence" 2 [] D_is_dependence) : FnOk P w K mg base (L2.CX P w) 5 f fd ["columns", "dependences"] (spX ⟨K, mg⟩ 2 X_need_dependences) :=
  have sc := sc_need_dependences
  xdef_ok (k := 4) F sc (fun cdv A outer s H E hr => (fx_alt (fx_here (fx1_if (ft_not (ft_val (fe_isiT rfl G.n_isinstance (pks_cons (pe_bltn (v := .ty "list") rfl G.n_list PyProof.Rows.boot_list rfl) (pks_cons (pe_bltn (v := .ty "tuple") rfl G.n_tuple PyProof.Rows.boot_tuple rfl) pks_nil)) (by decide) (.cons (.ty _) (.cons (.ty _) .nil)) G.i_list_tuple (fe_var (i := 1) rfl (by first | exact Or.inl rfl | exact Or.inr (Or.inl rfl) | exact Or.inr (Or.inr rfl)))))) (fx_here (fx1_raise xx_BadDependence rfl hr rfl (fa_cons fe_non fa_nil))) fx_none)) (fx_later (fs_if (ft_not (ft_val (fe_isiT rfl G.n_isinstance (pks_cons (pe_bltn (v := .ty "list") rfl G.n_list PyProof.Rows.boot_list rfl) (pks_cons (pe_bltn (v := .ty "tuple") rfl G.n_tuple PyProof.Rows.boot_tuple rfl) pks_nil)) (by decide) (.cons (.ty _) (.cons (.ty _) .nil)) G.i_list_tuple (fe_var (i := 1) rfl (by first | exact Or.inl rfl | exact Or.inr (Or.inl rfl) | exact Or.inr (Or.inr rfl)))))) (fss_one fs_never) fss_nil)
  (fx_here (fx1_for rfl (fi_enum rfl G.n_enumerate (fe_var (i := 1) rfl (by first | exact Or.inl rfl | exact Or.inr (Or.inl rfl) | exact Or.inr (Or.inr rfl)))) (fg_tup rfl (fgs_cons (fg_name (i := 2) sc.nd rfl (by first | exact Or.inl rfl | exact Or.inr rfl)) (fgs_cons (fg_name (i := 3) sc.nd rfl (by first | exact Or.inl rfl | exact Or.inr rfl)) fgs_nil)) (n := 2) (hg := (gCons_len (gCons_len gNil_len))))
   (fss_one (fs_if (ft_w (fw_or (FC.ft (fc_data (opD_eq hr) (fe_var (i := 2) rfl (by first | exact Or.inl rfl | exact Or.inr (Or.inl rfl) | exact Or.inr (Or.inr rfl))) (fe_gl G.g_MOST_DEPENDENCES rfl) rfl)) (fw_or1 (ft_not (ft_val (fe_call c_is_dependence hr rfl (fa_cons (fe_var (i := 0) rfl (by first | exact Or.inl rfl | exact Or.inr (Or.inl rfl) | exact Or.inr (Or.inr rfl))) (fa_cons (fe_var (i := 3) rfl (by first | exact Or.inl rfl | exact Or.inr (Or.inl rfl) | exact Or.inr (Or.inr rfl))) fa_nil)))))))) (fss_one fs_never) fss_nil))
   (fx_here (fx1_if (ft_w (fw_or (FC.ft (fc_data (opD_eq hr) (fe_var (i := 2) rfl (by first | exact Or.inl rfl | exact Or.inr (Or.inl rfl) | exact Or.inr (Or.inr rfl))) (fe_gl G.g_MOST_DEPENDENCES rfl) rfl)) (fw_or1 (ft_not (ft_val (fe_call c_is_dependence hr rfl (fa_cons (fe_var (i := 0) rfl (by first | exact Or.inl rfl | exact Or.inr (Or.inl rfl) | exact Or.inr (Or.inr rfl))) (fa_cons (fe_var (i := 3) rfl (by first | exact Or.inl rfl | exact Or.inr (Or.inl rfl) | exact Or.inr (Or.inr rfl))) fa_nil)))))))) (fx_here (fx1_raise xx_BadDependence rfl hr rfl (fa_cons (fe_var (i := 2) rfl (by first | exact Or.inl rfl | exact Or.inr (Or.inl rfl) | exact Or.inr (Or.inr rfl))) fa_nil))) fx_none)))))))
/-! is_columns -/
theorem sc_is_columns : FnScope ["thing", "letter"] ["thing"] (defScope s_is_columns) := C8.fnScope_by (by decide +kernel)
theorem ok_is_columns {f : Addr} {fd : FuncData} (G : Gt K mg) (F : Fun K "is_columns" "is_columns" s_is_columns f fd) (c_rises : CalD P w K mg base 2 "rises" 1 [] D_rises) : FnOk P w K mg base CX0 3 f fd ["thing"] (spD ⟨K, mg⟩ 1 D_is_columns) :=
  have sc := sc_is_columns
  def_ok (k := 2) F sc (fun cdv A outer s H E hr => (fss_cons (fs_if (ft_w (fw_or (ft_not (ft_val (fe_isi rfl G.n_isinstance (pe_bltn (v := .ty "str") rfl G.n_str PyProof.Rows.boot_str rfl) (.ty _) G.i_str (fe_var (i := 0) rfl (by first | exact Or.inl rfl | exact Or.inr (Or.inl rfl) | exact Or.inr (Or.inr rfl)))))) (fw_or (FC.ft (fc_data (opD_eq hr) (fe_var (i := 0) rfl (by first | exact Or.inl rfl | exact Or.inr (Or.inl rfl) | exact Or.inr (Or.inr rfl))) fe_str rfl)) (fw_or1 (ft_not (ft_val (fe_call c_rises hr rfl (fa_cons (fe_var (i := 0) rfl (by first | exact Or.inl rfl | exact Or.inr (Or.inl rfl) | exact Or.inr (Or.inr rfl))) fa_nil)))))))) (fss_one (fs_ret fe_bl)) fss_nil)
  (fss_one (fs_ret (fe_b (bD_all rfl) rfl G.n_all bo_all (fa_cons (fe_lc rfl sc.nd (own := [("letter", 1)]) (fi_val (fe_var (i := 0) rfl (by first | exact Or.inl rfl | exact Or.inr (Or.inl rfl) | exact Or.inr (Or.inr rfl)))) (blkOk_by (by show blkC ["thing", "letter"] (defScope s_is_columns) _ [("letter", 1)] = true; decide +kernel)) (fun _ _ _ _ _ => (fg_name (i := 1) sc.nd rfl (by first | exact Or.inl rfl | exact Or.inr rfl))) (fun _ _ _ _ _ => fts_nil) (fun _ _ _ _ _ => (FC.fe (fc_data opD_in (fe_var (i := 1) rfl (by first | exact Or.inl rfl | exact Or.inr (Or.inl rfl) | exact Or.inr (Or.inr rfl))) (fe_gl G.g_ALL_COLUMNS rfl) rfl)))) fa_nil))))))
/-! need_columns -/
theorem sc_need_columns : FnScope ["given"] ["given"] (defScope s_need_columns) := C8.fnScope_by (by decide +kernel)
theorem ok_need_columns {f : Addr} {fd : FuncData} (G : Gt K mg) (F : Fun K "need_columns" "need_columns" s_need_columns f fd) (c_is_columns : CalD P w K mg base 3 "is_columns" 1 [] D_is_columns) : FnOk P w K mg base CX0 4 f fd ["given"] (spD ⟨K, mg⟩ 1 D_need_columns) :=
  have sc := sc_need_columns
  def_ok (k := 3) F sc (fun cdv A outer s H E hr => (fss_one (fs_if (ft_not (ft_val (fe_call c_is_columns hr rfl (fa_cons (fe_var (i := 0) rfl (by first | exact Or.inl rfl | exact Or.inr (Or.inl rfl) | exact Or.inr (Or.inr rfl))) fa_nil)))) (fss_one fs_never) fss_nil)))
theorem okx_need_columns {f : Addr} {fd : FuncData} (G : Gt K mg) (F : Fun K "need_columns" "need_columns" s_need_columns f fd) (xx_BadColumns : XcD P w K mg base "BadColumns" "given") (c_is_columns : CalD P w K mg base 3 "is_columns" 1 [] D_is_columns) : FnOk P w K mg base (L2.CX P w) 4 f fd ["given"] (spX ⟨K, mg⟩ 1 X_need_columns) :=
  have sc := sc_need_columns
  xdef_ok (k := 3) F sc (fun cdv A outer s H E hr => (fx_here (fx1_if (ft_not (ft_val (fe_call c_is_columns hr rfl (fa_cons (fe_var (i := 0) rfl (by first | exact Or.inl rfl | exact Or.inr (Or.inl rfl) | exact Or.inr (Or.inr rfl))) fa_nil)))) (fx_here (fx1_raise xx_BadColumns rfl hr rfl (fa_cons (fe_var (i := 0) rfl (by first | exact Or.inl rfl | exact Or.inr (Or.inl rfl) | exact Or.inr (Or.inr rfl))) fa_nil))) fx_none)))
/-! Scheme.__init__ -/
theorem sc_Scheme_init : FnScope ["self", "columns", "dependences"] ["self", "columns", "dependences"] (defScope s_Scheme_init) := C8.fnScope_by (by decide +kernel)
theorem ok_Scheme_init {f : Addr} {fd : FuncData} {dvs : List V} {kws : List (Str × V)} (G : Gt K mg) (F : FunD K "__init__" "Scheme.__init__" (defArgs s_Scheme_init) (defBody s_Scheme_init) (defScope s_Scheme_init) dvs kws f fd) (c_need_dependences : CalD P w K mg base 5 "need_dependences" 2 [] D_need_dependences) (c_need_columns : CalD P w K mg base 4 "need_columns" 1 [] D_need_columns) : FnOk P w K mg base CX0 6 f fd ["self", "columns", "dependences"] (spI ⟨K, mg⟩ 3 "Scheme" I_Scheme) :=
  have sc := sc_Scheme_init
  init_ok (k := 5) F sc (fun cdv A outer s H E hr => (fj_expr (fe_call c_need_columns hr rfl (fa_cons (fe_var (i := 1) rfl (by first | exact Or.inl rfl | exact Or.inr (Or.inl rfl) | exact Or.inr (Or.inr rfl))) fa_nil))
  (fj_expr (fe_call c_need_dependences hr rfl (fa_cons (fe_var (i := 1) rfl (by first | exact Or.inl rfl | exact Or.inr (Or.inl rfl) | exact Or.inr (Or.inr rfl))) (fa_cons (fe_var (i := 2) rfl (by first | exact Or.inl rfl | exact Or.inr (Or.inl rfl) | exact Or.inr (Or.inr rfl))) fa_nil)))
  (fj_fld G.f_Scheme_own_columns (pv 0) (fe_var (i := 1) rfl (by first | exact Or.inl rfl | exact Or.inr (Or.inl rfl) | exact Or.inr (Or.inr rfl)))
  (fj_fld G.f_Scheme_own_dependences (pv 0) (fe_ty bD_tup rfl G.n_tuple bo_tuple (fa_cons (fe_var (i := 2) rfl (by first | exact Or.inl rfl | exact Or.inr (Or.inl rfl) | exact Or.inr (Or.inr rfl))) fa_nil))
  fj_nil)))))
theorem okx_Scheme_init {f : Addr} {fd : FuncData} {dvs : List V} {kws : List (Str × V)} (G : Gt K mg) (F : FunD K "__init__" "Scheme.__init__" (defArgs s_Scheme_init) (defBody s_Scheme_init) (defScope s_Scheme_init) dvs kws f fd) (xc_need_columns : XalD P w K mg base 4 "need_columns" 1 [] X_need_columns) (xc_need_dependences : XalD P w K mg base 5 "need_dependences" 2 [] X_need_dependences) (c_need_columns : CalD P w K mg base 4 "need_columns" 1 [] D_need_columns) : FnOk P w K mg base (L2.CX P w) 6 f fd ["self", "columns", "dependences"] (spX ⟨K, mg⟩ 3 X_Scheme_init) :=
  have sc := sc_Scheme_init
  xdef_okD (k := 5) F sc (fun cdv A outer s H E hr => (fx_alt (fx_here (fx1_expr (fxe_call xc_need_columns hr rfl (fa_cons (fe_var (i := 1) rfl (by first | exact Or.inl rfl | exact Or.inr (Or.inl rfl) | exact Or.inr (Or.inr rfl))) fa_nil)))) (fx_later (fs_expr (fe_call c_need_columns hr rfl (fa_cons (fe_var (i := 1) rfl (by first | exact Or.inl rfl | exact Or.inr (Or.inl rfl) | exact Or.inr (Or.inr rfl))) fa_nil)))
  (fx_here (fx1_expr (fxe_call xc_need_dependences hr rfl (fa_cons (fe_var (i := 1) rfl (by first | exact Or.inl rfl | exact Or.inr (Or.inl rfl) | exact Or.inr (Or.inr rfl))) (fa_cons (fe_var (i := 2) rfl (by first | exact Or.inl rfl | exact Or.inr (Or.inl rfl) | exact Or.inr (Or.inr rfl))) fa_nil))))))))
/-! sets_of -/
theorem sc_sets_of : FnScope ["columns", "found", "letter", "one"] ["columns"] (defScope s_sets_of) := C8.fnScope_by (by decide +kernel)
theorem ok_sets_of {f : Addr} {fd : FuncData} (G : Gt K mg) (F : Fun K "sets_of" "sets_of" s_sets_of f fd) {ca pa : Addr} (TB : LamX.TabB base mg ca pa) (hcd : ∀ oc od kV doc pm an cdv ct osl, K.lookup f = some ⟨oc, od, .func (PySem.W.fnOf "sets_of" "sets_of" (defArgs s_sets_of) (defBody s_sets_of) (defScope s_sets_of) .none kV doc pm an cdv ct), osl⟩ → cdv = .ref ca) (hmT : (pa, ("sets_of" : Str) ++ ".<locals>." ++ "<lambda>") ∈ Tabl.T) (hu : ∀ p ∈ Tabl.T, p.1 = pa → p.2 = ("sets_of" : Str) ++ ".<locals>." ++ "<lambda>") : FnOk P w K mg base CX0 5 f fd ["columns"] (spD ⟨K, mg⟩ 1 D_sets_of) :=
  have sc := sc_sets_of
  def_okT (k := 4) (ca := ca) F sc hcd (fun A outer s H E hr => have hcode : _ := rfl; (fss_cons (fs_set (i := 1) sc.nd rfl (by first | exact Or.inl rfl | exact Or.inr rfl) (fe_lst (fa_cons fe_str fa_nil)))
  (fss_cons (fs_for PassesOwn.never rfl (fi_val (fe_op opD_add (fe_var (i := 0) rfl (by first | exact Or.inl rfl | exact Or.inr (Or.inl rfl) | exact Or.inr (Or.inr rfl))) (fe_gl G.g_ROW rfl))) (fg_name (i := 2) sc.nd rfl (by first | exact Or.inl rfl | exact Or.inr rfl))
   (fss_one (fs_set (i := 1) sc.nd rfl (by first | exact Or.inl rfl | exact Or.inr rfl) (fe_op opD_add (fe_var (i := 1) rfl (by first | exact Or.inl rfl | exact Or.inr (Or.inl rfl) | exact Or.inr (Or.inr rfl))) (fe_lc rfl sc.nd (own := [("one", 3)]) (fi_val (fe_var (i := 1) rfl (by first | exact Or.inl rfl | exact Or.inr (Or.inl rfl) | exact Or.inr (Or.inr rfl)))) (blkOk_by (by show blkC ["columns", "found", "letter", "one"] (defScope s_sets_of) _ [("one", 3)] = true; decide +kernel)) (fun _ _ _ _ _ => (fg_name (i := 3) sc.nd rfl (by first | exact Or.inl rfl | exact Or.inr rfl))) (fun _ _ _ _ _ => fts_nil) (fun _ _ _ _ _ => (fe_op opD_add (fe_var (i := 3) rfl (by first | exact Or.inl rfl | exact Or.inr (Or.inl rfl) | exact Or.inr (Or.inr rfl))) (fe_var (i := 2) rfl (by first | exact Or.inl rfl | exact Or.inr (Or.inl rfl) | exact Or.inr (Or.inr rfl))))))))))
  (fss_one (fs_ret (fe_sortLam rfl G.n_sorted G.n_len hr TB hcode hmT hu (fe_var (i := 1) rfl (by first | exact Or.inl rfl | exact Or.inr (Or.inl rfl) | exact Or.inr (Or.inr rfl))) rfl (by decide +kernel) (fun _ _ _ _ _ => rfl) rfl rfl rfl (by decide +kernel) rfl rfl (by decide +kernel)))))))
/-! within -/
theorem sc_within : FnScope ["one", "other", "letter"] ["one", "other"] (defScope s_within) := C8.fnScope_by (by decide +kernel)
theorem ok_within {f : Addr} {fd : FuncData} (G : Gt K mg) (F : Fun K "within" "within" s_within f fd) : FnOk P w K mg base CX0 2 f fd ["one", "other"] (spD ⟨K, mg⟩ 2 D_within) :=
  have sc := sc_within
  def_ok (k := 1) F sc (fun cdv A outer s H E hr => (fss_one (fs_ret (fe_b (bD_all rfl) rfl G.n_all bo_all (fa_cons (fe_lc rfl sc.nd (own := [("letter", 2)]) (fi_val (fe_var (i := 0) rfl (by first | exact Or.inl rfl | exact Or.inr (Or.inl rfl) | exact Or.inr (Or.inr rfl)))) (blkOk_by (by show blkC ["one", "other", "letter"] (defScope s_within) _ [("letter", 2)] = true; decide +kernel)) (fun _ _ _ _ _ => (fg_name (i := 2) sc.nd rfl (by first | exact Or.inl rfl | exact Or.inr rfl))) (fun _ _ _ _ _ => fts_nil) (fun _ _ _ _ _ => (FC.fe (fc_data opD_in (fe_var (i := 2) rfl (by first | exact Or.inl rfl | exact Or.inr (Or.inl rfl) | exact Or.inr (Or.inr rfl))) (fe_var (i := 1) rfl (by first | exact Or.inl rfl | exact Or.inr (Or.inl rfl) | exact Or.inr (Or.inr rfl))) rfl)))) fa_nil)))))
/-! joined -/
theorem sc_joined : FnScope ["one", "other"] ["one", "other"] (defScope s_joined) := C8.fnScope_by (by decide +kernel)
theorem ok_joined {f : Addr} {fd : FuncData} (G : Gt K mg) (F : Fun K "joined" "joined" s_joined f fd) : FnOk P w K mg base CX0 2 f fd ["one", "other"] (spD ⟨K, mg⟩ 2 D_joined) :=
  have sc := sc_joined
  def_ok (k := 1) F sc (fun cdv A outer s H E hr => (fss_one (fs_ret (fe_m1 PySem.F.slot_str_join PySem.F.type_str_join mD_join fe_str (fe_sset rfl rfl G.n_sorted rfl G.n_set (fe_op opD_add (fe_var (i := 0) rfl (by first | exact Or.inl rfl | exact Or.inr (Or.inl rfl) | exact Or.inr (Or.inr rfl))) (fe_var (i := 1) rfl (by first | exact Or.inl rfl | exact Or.inr (Or.inl rfl) | exact Or.inr (Or.inr rfl)))))))))
/-! closure_of -/
theorem sc_closure_of : FnScope ["columns", "dependences", "letters", "found", "before", "lower", "letter"] ["columns", "dependences", "letters"] (defScope s_closure_of) := C8.fnScope_by (by decide +kernel)
theorem ok_closure_of {f : Addr} {fd : FuncData} (G : Gt K mg) (F : Fun K "closure_of" "closure_of" s_closure_of f fd) (c_within : CalD P w K mg base 2 "within" 2 [] D_within) (c_joined : CalD P w K mg base 2 "joined" 2 [] D_joined) : FnOk P w K mg base CX0 3 f fd ["columns", "dependences", "letters"] (spD ⟨K, mg⟩ 3 D_closure_of) :=
  have sc := sc_closure_of
  def_ok (k := 2) F sc (fun cdv A outer s H E hr => (fss_cons (fs_par2 rfl sc.nd (i := 3) (j := 4) rfl rfl (by decide) rfl rfl (fp_cons (fe_var (i := 2) rfl (by first | exact Or.inl rfl | exact Or.inr (Or.inl rfl) | exact Or.inr (Or.inr rfl))) (fp_cons fe_non fp_nil)) rfl)
  (fss_cons (fs_while 1000000 PassesOwn.never (FC.ft (fc_data (opD_ne hr) (fe_var (i := 3) rfl (by first | exact Or.inl rfl | exact Or.inr (Or.inl rfl) | exact Or.inr (Or.inr rfl))) (fe_var (i := 4) rfl (by first | exact Or.inl rfl | exact Or.inr (Or.inl rfl) | exact Or.inr (Or.inr rfl))) rfl)) (fss_cons (fs_set (i := 4) sc.nd rfl (by first | exact Or.inl rfl | exact Or.inr rfl) (fe_var (i := 3) rfl (by first | exact Or.inl rfl | exact Or.inr (Or.inl rfl) | exact Or.inr (Or.inr rfl))))
  (fss_cons (fs_if (FC.ft (fc_data opD_in (fe_gl G.g_ROW rfl) (fe_var (i := 3) rfl (by first | exact Or.inl rfl | exact Or.inr (Or.inl rfl) | exact Or.inr (Or.inr rfl))) rfl)) (fss_one (fs_set (i := 3) sc.nd rfl (by first | exact Or.inl rfl | exact Or.inr rfl) (fe_call c_joined hr rfl (fa_cons (fe_var (i := 3) rfl (by first | exact Or.inl rfl | exact Or.inr (Or.inl rfl) | exact Or.inr (Or.inr rfl))) (fa_cons (fe_var (i := 0) rfl (by first | exact Or.inl rfl | exact Or.inr (Or.inl rfl) | exact Or.inr (Or.inr rfl))) fa_nil))))) fss_nil)
  (fss_one (fs_for PassesOwn.never rfl (fi_val (fe_var (i := 1) rfl (by first | exact Or.inl rfl | exact Or.inr (Or.inl rfl) | exact Or.inr (Or.inr rfl)))) (fg_tup rfl (fgs_cons (fg_name (i := 5) sc.nd rfl (by first | exact Or.inl rfl | exact Or.inr rfl)) (fgs_cons (fg_name (i := 6) sc.nd rfl (by first | exact Or.inl rfl | exact Or.inr rfl)) fgs_nil)) (n := 2) (hg := (gCons_len (gCons_len gNil_len))))
   (fss_one (fs_if (ft_val (fe_call c_within hr rfl (fa_cons (fe_var (i := 5) rfl (by first | exact Or.inl rfl | exact Or.inr (Or.inl rfl) | exact Or.inr (Or.inr rfl))) (fa_cons (fe_var (i := 3) rfl (by first | exact Or.inl rfl | exact Or.inr (Or.inl rfl) | exact Or.inr (Or.inr rfl))) fa_nil)))) (fss_one (fs_set (i := 3) sc.nd rfl (by first | exact Or.inl rfl | exact Or.inr rfl) (fe_call c_joined hr rfl (fa_cons (fe_var (i := 3) rfl (by first | exact Or.inl rfl | exact Or.inr (Or.inl rfl) | exact Or.inr (Or.inr rfl))) (fa_cons (fe_var (i := 6) rfl (by first | exact Or.inl rfl | exact Or.inr (Or.inl rfl) | exact Or.inr (Or.inr rfl))) fa_nil))))) fss_nil)))))))
  (fss_one (fs_ret (fe_var (i := 3) rfl (by first | exact Or.inl rfl | exact Or.inr (Or.inl rfl) | exact Or.inr (Or.inr rfl))))))))
/-! need_set -/
theorem sc_need_set : FnScope ["columns", "letters"] ["columns", "letters"] (defScope s_need_set) := C8.fnScope_by (by decide +kernel)
theorem ok_need_set {f : Addr} {fd : FuncData} (G : Gt K mg) (F : Fun K "need_set" "need_set" s_need_set f fd) (c_is_set : CalD P w K mg base 3 "is_set" 2 [] D_is_set) : FnOk P w K mg base CX0 4 f fd ["columns", "letters"] (spD ⟨K, mg⟩ 2 D_need_set) :=
  have sc := sc_need_set
  def_ok (k := 3) F sc (fun cdv A outer s H E hr => (fss_one (fs_if (ft_not (ft_val (fe_call c_is_set hr rfl (fa_cons (fe_var (i := 0) rfl (by first | exact Or.inl rfl | exact Or.inr (Or.inl rfl) | exact Or.inr (Or.inr rfl))) (fa_cons (fe_var (i := 1) rfl (by first | exact Or.inl rfl | exact Or.inr (Or.inl rfl) | exact Or.inr (Or.inr rfl))) fa_nil))))) (fss_one fs_never) fss_nil)))
/-! Scheme.closure -/
theorem sc_Scheme_closure : FnScope ["self", "letters"] ["self", "letters"] (defScope s_Scheme_closure) := C8.fnScope_by (by decide +kernel)
theorem ok_Scheme_closure {f : Addr} {fd : FuncData} (G : Gt K mg) (F : Fun K "closure" "Scheme.closure" s_Scheme_closure f fd) (c_closure_of : CalD P w K mg base 3 "closure_of" 3 [] D_closure_of) (c_need_set : CalD P w K mg base 4 "need_set" 2 [] D_need_set) : FnOk P w K mg base CX0 5 f fd ["self", "letters"] (spD ⟨K, mg⟩ 2 D_Scheme_closure) :=
  have sc := sc_Scheme_closure
  def_ok (k := 4) F sc (fun cdv A outer s H E hr => (fss_cons (fs_expr (fe_call c_need_set hr rfl (fa_cons (fe_fld G.f_Scheme_own_columns (fe_var (i := 0) rfl (by first | exact Or.inl rfl | exact Or.inr (Or.inl rfl) | exact Or.inr (Or.inr rfl)))) (fa_cons (fe_var (i := 1) rfl (by first | exact Or.inl rfl | exact Or.inr (Or.inl rfl) | exact Or.inr (Or.inr rfl))) fa_nil))))
  (fss_one (fs_ret (fe_call c_closure_of hr rfl (fa_cons (fe_fld G.f_Scheme_own_columns (fe_var (i := 0) rfl (by first | exact Or.inl rfl | exact Or.inr (Or.inl rfl) | exact Or.inr (Or.inr rfl)))) (fa_cons (fe_fld G.f_Scheme_own_dependences (fe_var (i := 0) rfl (by first | exact Or.inl rfl | exact Or.inr (Or.inl rfl) | exact Or.inr (Or.inr rfl)))) (fa_cons (fe_var (i := 1) rfl (by first | exact Or.inl rfl | exact Or.inr (Or.inl rfl) | exact Or.inr (Or.inr rfl))) fa_nil))))))))
/-! Scheme.closed_sets -/
theorem sc_Scheme_closed_sets : FnScope ["self", "one"] ["self"] (defScope s_Scheme_closed_sets) := C8.fnScope_by (by decide +kernel)
theorem ok_Scheme_closed_sets {f : Addr} {fd : FuncData} (G : Gt K mg) (F : Fun K "closed_sets" "Scheme.closed_sets" s_Scheme_closed_sets f fd) (c_sets_of : CalD P w K mg base 5 "sets_of" 1 [] D_sets_of) (c_m_Scheme_closure : MetD P w K mg base 5 "Scheme" "closure" 2 [] D_Scheme_closure) : FnOk P w K mg base CX0 6 f fd ["self"] (spD ⟨K, mg⟩ 1 D_Scheme_closed_sets) :=
  have sc := sc_Scheme_closed_sets
  def_ok (k := 5) F sc (fun cdv A outer s H E hr => (fss_one (fs_ret (fe_lc rfl sc.nd (own := [("one", 1)]) (fi_val (fe_call c_sets_of hr rfl (fa_cons (fe_fld G.f_Scheme_own_columns (fe_var (i := 0) rfl (by first | exact Or.inl rfl | exact Or.inr (Or.inl rfl) | exact Or.inr (Or.inr rfl)))) fa_nil))) (blkOk_by (by show blkC ["self", "one"] (defScope s_Scheme_closed_sets) _ [("one", 1)] = true; decide +kernel)) (fun _ _ _ _ _ => (fg_name (i := 1) sc.nd rfl (by first | exact Or.inl rfl | exact Or.inr rfl))) (fun _ _ _ _ _ => (fts_one (FC.ft (fc_data (opD_eq hr) (fe_meth c_m_Scheme_closure hr (fe_var (i := 0) rfl (by first | exact Or.inl rfl | exact Or.inr (Or.inl rfl) | exact Or.inr (Or.inr rfl))) (fa_cons (fe_var (i := 1) rfl (by first | exact Or.inl rfl | exact Or.inr (Or.inl rfl) | exact Or.inr (Or.inr rfl))) fa_nil)) (fe_var (i := 1) rfl (by first | exact Or.inl rfl | exact Or.inr (Or.inl rfl) | exact Or.inr (Or.inr rfl))) rfl)))) (fun _ _ _ _ _ => (fe_var (i := 1) rfl (by first | exact Or.inl rfl | exact Or.inr (Or.inl rfl) | exact Or.inr (Or.inr rfl))))))))
/-! Scheme.__eq__ -/
theorem sc_Scheme_eq : FnScope ["self", "other"] ["self", "other"] (defScope s_Scheme_eq) := C8.fnScope_by (by decide +kernel)
theorem ok_Scheme_eq {f : Addr} {fd : FuncData} (G : Gt K mg) (F : Fun K "__eq__" "Scheme.__eq__" s_Scheme_eq f fd) (c_m_Scheme_closed_sets : MetD P w K mg base 6 "Scheme" "closed_sets" 1 [] D_Scheme_closed_sets) : FnOk P w K mg base CX0 7 f fd ["self", "other"] (spD ⟨K, mg⟩ 2 D_Scheme_eq) :=
  have sc := sc_Scheme_eq
  def_ok (k := 6) F sc (fun cdv A outer s H E hr => (fss_cons (fs_if (ft_w (fw_or (ft_not (ft_val (fe_isiC G.i_Scheme rfl G.n_isinstance rfl (fe_var (i := 1) rfl (by first | exact Or.inl rfl | exact Or.inr (Or.inl rfl) | exact Or.inr (Or.inr rfl)))))) (fw_or1 (FC.ft (fc_data (opD_ne hr) (fe_fld G.f_Scheme_own_columns (fe_var (i := 0) rfl (by first | exact Or.inl rfl | exact Or.inr (Or.inl rfl) | exact Or.inr (Or.inr rfl)))) (fe_fld G.f_Scheme_own_columns (fe_var (i := 1) rfl (by first | exact Or.inl rfl | exact Or.inr (Or.inl rfl) | exact Or.inr (Or.inr rfl)))) rfl))))) (fss_one (fs_ret fe_bl)) fss_nil)
  (fss_one (fs_ret (FC.fe (fc_data (opD_eq hr) (fe_meth0 c_m_Scheme_closed_sets hr (fe_var (i := 0) rfl (by first | exact Or.inl rfl | exact Or.inr (Or.inl rfl) | exact Or.inr (Or.inr rfl)))) (fe_meth0 c_m_Scheme_closed_sets hr (fe_var (i := 1) rfl (by first | exact Or.inl rfl | exact Or.inr (Or.inl rfl) | exact Or.inr (Or.inr rfl)))) rfl))))))
/-! Scheme.dependences -/
theorem sc_Scheme_dependences : FnScope ["self"] ["self"] (defScope s_Scheme_dependences) := C8.fnScope_by (by decide +kernel)
theorem ok_Scheme_dependences {f : Addr} {fd : FuncData} (G : Gt K mg) (F : Fun K "dependences" "Scheme.dependences" s_Scheme_dependences f fd) : FnOk P w K mg base CX0 2 f fd ["self"] (spD ⟨K, mg⟩ 1 D_Scheme_dependences) :=
  have sc := sc_Scheme_dependences
  def_ok (k := 1) F sc (fun cdv A outer s H E hr => (fss_one (fs_ret (fe_fld G.f_Scheme_own_dependences (fe_var (i := 0) rfl (by first | exact Or.inl rfl | exact Or.inr (Or.inl rfl) | exact Or.inr (Or.inr rfl)))))))
/-! Scheme.columns -/
theorem sc_Scheme_columns : FnScope ["self"] ["self"] (defScope s_Scheme_columns) := C8.fnScope_by (by decide +kernel)
theorem ok_Scheme_columns {f : Addr} {fd : FuncData} (G : Gt K mg) (F : Fun K "columns" "Scheme.columns" s_Scheme_columns f fd) : FnOk P w K mg base CX0 2 f fd ["self"] (spD ⟨K, mg⟩ 1 D_Scheme_columns) :=
  have sc := sc_Scheme_columns
  def_ok (k := 1) F sc (fun cdv A outer s H E hr => (fss_one (fs_ret (fe_fld G.f_Scheme_own_columns (fe_var (i := 0) rfl (by first | exact Or.inl rfl | exact Or.inr (Or.inl rfl) | exact Or.inr (Or.inr rfl)))))))
/-! _law_told -/
theorem sc_law_told : FnScope ["_law_columns_here", "_law_ties", "_law_error", "_law_found", "caught"] ["_law_columns_here", "_law_ties"] (defScope s_law_told) := C8.fnScope_by (by decide +kernel)
theorem ok_law_told {f : Addr} {fd : FuncData} (G : Gt K mg) (F : Fun K "_law_told" "_law_told" s_law_told f fd) (xz_Scheme_init : XakD P w K mg base 6 "Scheme" 3 [] X_Scheme_init) (c_k_Scheme_init_2 : MakD P w K mg base 6 "Scheme" 3 [] I_Scheme) : FnOk P w K mg base CX0 8 f fd ["_law_columns_here", "_law_ties"] (spD ⟨K, mg⟩ 2 D_law_told) :=
  have sc := sc_law_told
  def_ok (k := 7) F sc (fun cdv A outer s H E hr => (fss_cons (fs_asg (fe_tup (fa_cons fe_non (fa_cons fe_non fa_nil))) (fg_tup rfl (fgs_cons (fg_name (i := 2) sc.nd rfl (by first | exact Or.inl rfl | exact Or.inr rfl)) (fgs_cons (fg_name (i := 3) sc.nd rfl (by first | exact Or.inl rfl | exact Or.inr rfl)) fgs_nil)) (n := 2) (hg := (gCons_len (gCons_len gNil_len)))))
  (fss_cons (fs_try rfl rfl rfl sc.nd (i := 4) rfl rfl (j := 2) rfl (by first | exact Or.inl rfl | exact Or.inr rfl) rfl rfl G.xs_MeanError (fun _ => (fss_one (fs_set (i := 3) sc.nd rfl (by first | exact Or.inl rfl | exact Or.inr rfl) (fe_make c_k_Scheme_init_2 hr rfl (fa_cons (fe_var (i := 0) rfl (by first | exact Or.inl rfl | exact Or.inr (Or.inl rfl) | exact Or.inr (Or.inr rfl))) (fa_cons (fe_var (i := 1) rfl (by first | exact Or.inl rfl | exact Or.inr (Or.inl rfl) | exact Or.inr (Or.inr rfl))) fa_nil)))))) (fun _ _ => (fx_here (fx1_set (i := 3) sc.nd rfl (by first | exact Or.inl rfl | exact Or.inr rfl) (fxe_make xz_Scheme_init hr rfl (fa_cons (fe_var (i := 0) rfl (by first | exact Or.inl rfl | exact Or.inr (Or.inl rfl) | exact Or.inr (Or.inr rfl))) (fa_cons (fe_var (i := 1) rfl (by first | exact Or.inl rfl | exact Or.inr (Or.inl rfl) | exact Or.inr (Or.inr rfl))) fa_nil)))))))
  (fss_cons (fs_if (FC.ft (fc_isN (fe_var (i := 2) rfl (by first | exact Or.inl rfl | exact Or.inr (Or.inl rfl) | exact Or.inr (Or.inr rfl))))) (fss_one (fs_ret (fe_var (i := 3) rfl (by first | exact Or.inl rfl | exact Or.inr (Or.inl rfl) | exact Or.inr (Or.inr rfl))))) fss_nil)
  (fss_cons (fs_if (ft_w (fw_or (ft_val (fe_alt (fe_isiC G.i_TooMany rfl G.n_isinstance rfl (fe_var (i := 2) rfl (by first | exact Or.inl rfl | exact Or.inr (Or.inl rfl) | exact Or.inr (Or.inr rfl)))) (fe_isxC G.xi_TooMany rfl G.n_isinstance rfl (fe_var (i := 2) rfl (by first | exact Or.inl rfl | exact Or.inr (Or.inl rfl) | exact Or.inr (Or.inr rfl)))))) (fw_or1 (ft_not (ft_val (fe_alt (fe_isi rfl G.n_isinstance (pe_bltn (v := .ty "ValueError") rfl G.n_ValueError (by decide +kernel) rfl) (.ty _) G.i_ValueError (fe_var (i := 2) rfl (by first | exact Or.inl rfl | exact Or.inr (Or.inl rfl) | exact Or.inr (Or.inr rfl)))) (fe_isx rfl G.n_isinstance (pe_bltn (v := .ty "ValueError") rfl G.n_ValueError (by decide +kernel) rfl) (.ty _) G.xi_ValueError (fe_var (i := 2) rfl (by first | exact Or.inl rfl | exact Or.inr (Or.inl rfl) | exact Or.inr (Or.inr rfl)))))))))) (fss_one (fs_ret (fe_lst (fa_cons fe_str (fa_cons fe_non fa_nil))))) fss_nil)
  (fss_cons (fs_if (ft_val (fe_alt (fe_isiC G.i_BadColumns rfl G.n_isinstance rfl (fe_var (i := 2) rfl (by first | exact Or.inl rfl | exact Or.inr (Or.inl rfl) | exact Or.inr (Or.inr rfl)))) (fe_isxC G.xi_BadColumns rfl G.n_isinstance rfl (fe_var (i := 2) rfl (by first | exact Or.inl rfl | exact Or.inr (Or.inl rfl) | exact Or.inr (Or.inr rfl)))))) (fss_one (fs_ret (fe_lst (fa_cons fe_str (fa_cons (fe_xf G.xf_given (fe_var (i := 2) rfl (by first | exact Or.inl rfl | exact Or.inr (Or.inl rfl) | exact Or.inr (Or.inr rfl)))) fa_nil))))) fss_nil)
  (fss_one (fs_ret (fe_ifExp (ft_val (fe_alt (fe_isiC G.i_BadDependence rfl G.n_isinstance rfl (fe_var (i := 2) rfl (by first | exact Or.inl rfl | exact Or.inr (Or.inl rfl) | exact Or.inr (Or.inr rfl)))) (fe_isxC G.xi_BadDependence rfl G.n_isinstance rfl (fe_var (i := 2) rfl (by first | exact Or.inl rfl | exact Or.inr (Or.inl rfl) | exact Or.inr (Or.inr rfl)))))) (fe_lst (fa_cons fe_str (fa_cons (fe_xf G.xf_at (fe_var (i := 2) rfl (by first | exact Or.inl rfl | exact Or.inr (Or.inl rfl) | exact Or.inr (Or.inr rfl)))) fa_nil))) (fe_lst (fa_cons fe_str (fa_cons fe_non fa_nil))))))))))))
/-! _law_is_rising -/
theorem sc_law_is_rising : FnScope ["_law_thing", "_law_some", "_law_one"] ["_law_thing", "_law_some"] (defScope s_law_is_rising) := C8.fnScope_by (by decide +kernel)
theorem ok_law_is_rising {f : Addr} {fd : FuncData} (G : Gt K mg) (F : Fun K "_law_is_rising" "_law_is_rising" s_law_is_rising f fd) : FnOk P w K mg base CX0 2 f fd ["_law_thing", "_law_some"] (spD ⟨K, mg⟩ 2 D_law_is_rising) :=
  have sc := sc_law_is_rising
  def_ok (k := 1) F sc (fun cdv A outer s H E hr => (fss_cons (fs_if (ft_w (fw_or (ft_not (ft_val (fe_isi rfl G.n_isinstance (pe_bltn (v := .ty "str") rfl G.n_str PyProof.Rows.boot_str rfl) (.ty _) G.i_str (fe_var (i := 0) rfl (by first | exact Or.inl rfl | exact Or.inr (Or.inl rfl) | exact Or.inr (Or.inr rfl)))))) (fw_or1 (FC.ft (fc_data (opD_ne hr) (fe_lc rfl sc.nd (own := [("_law_one", 2)]) (fi_val (fe_var (i := 0) rfl (by first | exact Or.inl rfl | exact Or.inr (Or.inl rfl) | exact Or.inr (Or.inr rfl)))) (blkOk_by (by show blkC ["_law_thing", "_law_some", "_law_one"] (defScope s_law_is_rising) _ [("_law_one", 2)] = true; decide +kernel)) (fun _ _ _ _ _ => (fg_name (i := 2) sc.nd rfl (by first | exact Or.inl rfl | exact Or.inr rfl))) (fun _ _ _ _ _ => (fts_one (FC.ft (fc_data opD_notIn (fe_var (i := 2) rfl (by first | exact Or.inl rfl | exact Or.inr (Or.inl rfl) | exact Or.inr (Or.inr rfl))) (fe_var (i := 1) rfl (by first | exact Or.inl rfl | exact Or.inr (Or.inl rfl) | exact Or.inr (Or.inr rfl))) rfl)))) (fun _ _ _ _ _ => (fe_var (i := 2) rfl (by first | exact Or.inl rfl | exact Or.inr (Or.inl rfl) | exact Or.inr (Or.inr rfl))))) (fe_lst fa_nil) rfl))))) (fss_one (fs_ret fe_bl)) fss_nil)
  (fss_one (fs_ret (FC.fe (fc_data (opD_eq hr) (fe_m1 PySem.F.slot_str_join PySem.F.type_str_join mD_join fe_str (fe_sset rfl rfl G.n_sorted rfl G.n_set (fe_var (i := 0) rfl (by first | exact Or.inl rfl | exact Or.inr (Or.inl rfl) | exact Or.inr (Or.inr rfl))))) (fe_var (i := 0) rfl (by first | exact Or.inl rfl | exact Or.inr (Or.inl rfl) | exact Or.inr (Or.inr rfl))) rfl))))))
/-! _law_is_tie -/
theorem sc_law_is_tie : FnScope ["_law_columns_here", "_law_thing"] ["_law_columns_here", "_law_thing"] (defScope s_law_is_tie) := C8.fnScope_by (by decide +kernel)
theorem ok_law_is_tie {f : Addr} {fd : FuncData} (G : Gt K mg) (F : Fun K "_law_is_tie" "_law_is_tie" s_law_is_tie f fd) (c_law_is_rising : CalD P w K mg base 2 "_law_is_rising" 2 [] D_law_is_rising) : FnOk P w K mg base CX0 3 f fd ["_law_columns_here", "_law_thing"] (spD ⟨K, mg⟩ 2 D_law_is_tie) :=
  have sc := sc_law_is_tie
  def_ok (k := 2) F sc (fun cdv A outer s H E hr => (fss_cons (fs_if (ft_w (fw_or (ft_not (ft_val (fe_isi rfl G.n_isinstance (pe_bltn (v := .ty "tuple") rfl G.n_tuple PyProof.Rows.boot_tuple rfl) (.ty _) G.i_tuple (fe_var (i := 1) rfl (by first | exact Or.inl rfl | exact Or.inr (Or.inl rfl) | exact Or.inr (Or.inr rfl)))))) (fw_or (FC.ft (fc_data (opD_ne hr) (fe_b bD_len rfl G.n_len bo_len (fa_cons (fe_var (i := 1) rfl (by first | exact Or.inl rfl | exact Or.inr (Or.inl rfl) | exact Or.inr (Or.inr rfl))) fa_nil)) fe_int rfl)) (fw_or1 (ft_not (ft_val (fe_call c_law_is_rising hr rfl (fa_cons (fe_ix ixD_ok (fe_var (i := 1) rfl (by first | exact Or.inl rfl | exact Or.inr (Or.inl rfl) | exact Or.inr (Or.inr rfl))) fe_int (fun _ _ => rfl)) (fa_cons (fe_op opD_add (fe_var (i := 0) rfl (by first | exact Or.inl rfl | exact Or.inr (Or.inl rfl) | exact Or.inr (Or.inr rfl))) fe_str) fa_nil))))))))) (fss_one (fs_ret fe_bl)) fss_nil)
  (fss_one (fs_ret (fe_and (fe_call c_law_is_rising hr rfl (fa_cons (fe_ix ixD_ok (fe_var (i := 1) rfl (by first | exact Or.inl rfl | exact Or.inr (Or.inl rfl) | exact Or.inr (Or.inr rfl))) fe_int (fun _ _ => rfl)) (fa_cons (fe_op opD_add (fe_var (i := 0) rfl (by first | exact Or.inl rfl | exact Or.inr (Or.inl rfl) | exact Or.inr (Or.inr rfl))) fe_str) fa_nil))) (fe_one (FC.fe (fc_data (opD_eq hr) (fe_b bD_len rfl G.n_len bo_len (fa_cons (fe_ix ixD_ok (fe_var (i := 1) rfl (by first | exact Or.inl rfl | exact Or.inr (Or.inl rfl) | exact Or.inr (Or.inr rfl))) fe_int (fun _ _ => rfl)) fa_nil)) fe_int rfl))))))))
/-! _law_due -/
theorem sc_law_due : FnScope ["_law_columns_here", "_law_ties", "_law_at", "_law_one"] ["_law_columns_here", "_law_ties"] (defScope s_law_due) := C8.fnScope_by (by decide +kernel)
theorem ok_law_due {f : Addr} {fd : FuncData} (G : Gt K mg) (F : Fun K "_law_due" "_law_due" s_law_due f fd) (c_law_is_tie : CalD P w K mg base 3 "_law_is_tie" 2 [] D_law_is_tie) (c_law_is_rising : CalD P w K mg base 2 "_law_is_rising" 2 [] D_law_is_rising) : FnOk P w K mg base CX0 4 f fd ["_law_columns_here", "_law_ties"] (spD ⟨K, mg⟩ 2 D_law_due) :=
  have sc := sc_law_due
  def_ok (k := 3) F sc (fun cdv A outer s H E hr => (fss_cons (fs_if (ft_w (fw_or (ft_not (ft_val (fe_call c_law_is_rising hr rfl (fa_cons (fe_var (i := 0) rfl (by first | exact Or.inl rfl | exact Or.inr (Or.inl rfl) | exact Or.inr (Or.inr rfl))) (fa_cons fe_str fa_nil))))) (fw_or1 (FC.ft (fc_data (opD_eq hr) (fe_var (i := 0) rfl (by first | exact Or.inl rfl | exact Or.inr (Or.inl rfl) | exact Or.inr (Or.inr rfl))) fe_str rfl))))) (fss_one (fs_ret (fe_lst (fa_cons fe_str (fa_cons (fe_var (i := 0) rfl (by first | exact Or.inl rfl | exact Or.inr (Or.inl rfl) | exact Or.inr (Or.inr rfl))) fa_nil))))) fss_nil)
  (fss_cons (fs_if (ft_not (ft_val (fe_isiT rfl G.n_isinstance (pks_cons (pe_bltn (v := .ty "list") rfl G.n_list PyProof.Rows.boot_list rfl) (pks_cons (pe_bltn (v := .ty "tuple") rfl G.n_tuple PyProof.Rows.boot_tuple rfl) pks_nil)) (by decide) (.cons (.ty _) (.cons (.ty _) .nil)) G.i_list_tuple (fe_var (i := 1) rfl (by first | exact Or.inl rfl | exact Or.inr (Or.inl rfl) | exact Or.inr (Or.inr rfl)))))) (fss_one (fs_ret (fe_lst (fa_cons fe_str (fa_cons fe_non fa_nil))))) fss_nil)
  (fss_cons (fs_for PassesOwn.never rfl (fi_enum rfl G.n_enumerate (fe_var (i := 1) rfl (by first | exact Or.inl rfl | exact Or.inr (Or.inl rfl) | exact Or.inr (Or.inr rfl)))) (fg_tup rfl (fgs_cons (fg_name (i := 2) sc.nd rfl (by first | exact Or.inl rfl | exact Or.inr rfl)) (fgs_cons (fg_name (i := 3) sc.nd rfl (by first | exact Or.inl rfl | exact Or.inr rfl)) fgs_nil)) (n := 2) (hg := (gCons_len (gCons_len gNil_len))))
   (fss_one (fs_if (ft_w (fw_or (FC.ft (fc_data (opD_eq hr) (fe_var (i := 2) rfl (by first | exact Or.inl rfl | exact Or.inr (Or.inl rfl) | exact Or.inr (Or.inr rfl))) fe_int rfl)) (fw_or1 (ft_not (ft_val (fe_call c_law_is_tie hr rfl (fa_cons (fe_var (i := 0) rfl (by first | exact Or.inl rfl | exact Or.inr (Or.inl rfl) | exact Or.inr (Or.inr rfl))) (fa_cons (fe_var (i := 3) rfl (by first | exact Or.inl rfl | exact Or.inr (Or.inl rfl) | exact Or.inr (Or.inr rfl))) fa_nil)))))))) (fss_one (fs_ret (fe_lst (fa_cons fe_str (fa_cons (fe_var (i := 2) rfl (by first | exact Or.inl rfl | exact Or.inr (Or.inl rfl) | exact Or.inr (Or.inr rfl))) fa_nil))))) fss_nil)))
  (fss_one (fs_ret fe_non))))))
/-! _law_mixed -/
theorem sc_law_mixed : FnScope ["_law_draw", "_law_turn", "_law_found", "_law_prime", "_law_blend", "_law_cell"] ["_law_draw"] (defScope s_law_mixed) := C8.fnScope_by (by decide +kernel)
theorem ok_law_mixed {f : Addr} {fd : FuncData} (G : Gt K mg) (F : Fun K "_law_mixed" "_law_mixed" s_law_mixed f fd) : FnOk P w K mg base CX0 2 f fd ["_law_draw"] (spD ⟨K, mg⟩ 1 D_law_mixed) :=
  have sc := sc_law_mixed
  def_ok (k := 1) F sc (fun cdv A outer s H E hr => (fss_cons (fs_par2 rfl sc.nd (i := 1) (j := 2) rfl rfl (by decide) rfl rfl (fp_cons (fe_op opD_add (fe_drI hr (fe_var (i := 0) rfl (by first | exact Or.inl rfl | exact Or.inr (Or.inl rfl) | exact Or.inr (Or.inr rfl))) v_turn) fe_int) (fp_cons fe_int fp_nil)) rfl)
  (fss_cons (fs_drSet hr (fe_var (i := 0) rfl (by first | exact Or.inl rfl | exact Or.inr (Or.inl rfl) | exact Or.inr (Or.inr rfl))) (fe_var (i := 1) rfl (by first | exact Or.inl rfl | exact Or.inr (Or.inl rfl) | exact Or.inr (Or.inr rfl))) p_turn)
  (fss_cons (fs_for PassesOwn.never rfl (fi_val (fe_lst (fa_cons fe_int (fa_cons fe_int (fa_cons fe_int (fa_cons fe_int fa_nil)))))) (fg_name (i := 3) sc.nd rfl (by first | exact Or.inl rfl | exact Or.inr rfl))
   (fss_cons (fs_set (i := 4) sc.nd rfl (by first | exact Or.inl rfl | exact Or.inr rfl) (fe_op opD_add (fe_op opD_mul fe_int (fe_var (i := 1) rfl (by first | exact Or.inl rfl | exact Or.inr (Or.inl rfl) | exact Or.inr (Or.inr rfl)))) (fe_op opD_fdiv (fe_var (i := 3) rfl (by first | exact Or.inl rfl | exact Or.inr (Or.inl rfl) | exact Or.inr (Or.inr rfl))) fe_int)))
  (fss_cons (fs_for PassesOwn.never rfl (fi_drC hr (fe_var (i := 0) rfl (by first | exact Or.inl rfl | exact Or.inr (Or.inl rfl) | exact Or.inr (Or.inr rfl)))) (fg_name (i := 5) sc.nd rfl (by first | exact Or.inl rfl | exact Or.inr rfl))
   (fss_one (fs_set (i := 4) sc.nd rfl (by first | exact Or.inl rfl | exact Or.inr rfl) (fe_op opD_mod (fe_ty bD_int rfl G.n_int bo_int (fa_cons (fe_op opD_add (fe_op opD_add (fe_op opD_mul (fe_var (i := 4) rfl (by first | exact Or.inl rfl | exact Or.inr (Or.inl rfl) | exact Or.inr (Or.inr rfl))) fe_int) (fe_var (i := 5) rfl (by first | exact Or.inl rfl | exact Or.inr (Or.inl rfl) | exact Or.inr (Or.inr rfl)))) (fe_var (i := 1) rfl (by first | exact Or.inl rfl | exact Or.inr (Or.inl rfl) | exact Or.inr (Or.inr rfl)))) fa_nil)) (fe_var (i := 3) rfl (by first | exact Or.inl rfl | exact Or.inr (Or.inl rfl) | exact Or.inr (Or.inr rfl)))))))
  (fss_one (fs_set (i := 2) sc.nd rfl (by first | exact Or.inl rfl | exact Or.inr rfl) (fe_op opD_add (fe_op opD_mul (fe_var (i := 2) rfl (by first | exact Or.inl rfl | exact Or.inr (Or.inl rfl) | exact Or.inr (Or.inr rfl))) fe_int) (fe_op opD_mod (fe_ty bD_int rfl G.n_int bo_int (fa_cons (fe_op opD_pow (fe_var (i := 4) rfl (by first | exact Or.inl rfl | exact Or.inr (Or.inl rfl) | exact Or.inr (Or.inr rfl))) fe_int) fa_nil)) (fe_var (i := 3) rfl (by first | exact Or.inl rfl | exact Or.inr (Or.inl rfl) | exact Or.inr (Or.inr rfl))))))))))
  (fss_one (fs_ret (fe_var (i := 2) rfl (by first | exact Or.inl rfl | exact Or.inr (Or.inl rfl) | exact Or.inr (Or.inr rfl)))))))))
/-! _law_take -/
theorem sc_law_take : FnScope ["_law_draw", "_law_size", "_law_found"] ["_law_draw", "_law_size"] (defScope s_law_take) := C8.fnScope_by (by decide +kernel)
theorem ok_law_take {f : Addr} {fd : FuncData} (G : Gt K mg) (F : Fun K "_law_take" "_law_take" s_law_take f fd) (c_law_mixed : CalD P w K mg base 2 "_law_mixed" 1 [] D_law_mixed) : FnOk P w K mg base CX0 3 f fd ["_law_draw", "_law_size"] (spD ⟨K, mg⟩ 2 D_law_take) :=
  have sc := sc_law_take
  def_ok (k := 2) F sc (fun cdv A outer s H E hr => (fss_cons (fs_if (FC.ft (fc_data (opD_eq hr) (fe_drI hr (fe_var (i := 0) rfl (by first | exact Or.inl rfl | exact Or.inr (Or.inl rfl) | exact Or.inr (Or.inr rfl))) v_rest) fe_int rfl)) (fss_one (fs_drSet hr (fe_var (i := 0) rfl (by first | exact Or.inl rfl | exact Or.inr (Or.inl rfl) | exact Or.inr (Or.inr rfl))) (fe_ifExp (ft_drWide hr (fe_var (i := 0) rfl (by first | exact Or.inl rfl | exact Or.inr (Or.inl rfl) | exact Or.inr (Or.inr rfl)))) (fe_drPop hr (fe_var (i := 0) rfl (by first | exact Or.inl rfl | exact Or.inr (Or.inl rfl) | exact Or.inr (Or.inr rfl)))) (fe_call c_law_mixed hr rfl (fa_cons (fe_var (i := 0) rfl (by first | exact Or.inl rfl | exact Or.inr (Or.inl rfl) | exact Or.inr (Or.inr rfl))) fa_nil))) p_rest)) fss_nil)
  (fss_cons (fs_set (i := 2) sc.nd rfl (by first | exact Or.inl rfl | exact Or.inr rfl) (fe_op opD_mod (fe_ty bD_int rfl G.n_int bo_int (fa_cons (fe_drI hr (fe_var (i := 0) rfl (by first | exact Or.inl rfl | exact Or.inr (Or.inl rfl) | exact Or.inr (Or.inr rfl))) v_rest) fa_nil)) (fe_var (i := 1) rfl (by first | exact Or.inl rfl | exact Or.inr (Or.inl rfl) | exact Or.inr (Or.inr rfl)))))
  (fss_cons (fs_drSet hr (fe_var (i := 0) rfl (by first | exact Or.inl rfl | exact Or.inr (Or.inl rfl) | exact Or.inr (Or.inr rfl))) (fe_op opD_fdiv (fe_drI hr (fe_var (i := 0) rfl (by first | exact Or.inl rfl | exact Or.inr (Or.inl rfl) | exact Or.inr (Or.inr rfl))) v_rest) (fe_var (i := 1) rfl (by first | exact Or.inl rfl | exact Or.inr (Or.inl rfl) | exact Or.inr (Or.inr rfl)))) p_rest)
  (fss_one (fs_ret (fe_var (i := 2) rfl (by first | exact Or.inl rfl | exact Or.inr (Or.inl rfl) | exact Or.inr (Or.inr rfl)))))))))
/-! _law_pick -/
theorem sc_law_pick : FnScope ["_law_draw", "_law_some"] ["_law_draw", "_law_some"] (defScope s_law_pick) := C8.fnScope_by (by decide +kernel)
theorem ok_law_pick {f : Addr} {fd : FuncData} (G : Gt K mg) (F : Fun K "_law_pick" "_law_pick" s_law_pick f fd) (c_law_take : CalD P w K mg base 3 "_law_take" 2 [] D_law_take) : FnOk P w K mg base CX0 4 f fd ["_law_draw", "_law_some"] (spD ⟨K, mg⟩ 2 D_law_pick) :=
  have sc := sc_law_pick
  def_ok (k := 3) F sc (fun cdv A outer s H E hr => (fss_one (fs_ret (fe_ix ixD_ok (fe_var (i := 1) rfl (by first | exact Or.inl rfl | exact Or.inr (Or.inl rfl) | exact Or.inr (Or.inr rfl))) (fe_call c_law_take hr rfl (fa_cons (fe_var (i := 0) rfl (by first | exact Or.inl rfl | exact Or.inr (Or.inl rfl) | exact Or.inr (Or.inr rfl))) (fa_cons (fe_b bD_len rfl G.n_len bo_len (fa_cons (fe_var (i := 1) rfl (by first | exact Or.inl rfl | exact Or.inr (Or.inl rfl) | exact Or.inr (Or.inr rfl))) fa_nil)) fa_nil))) (fun _ _ => rfl)))))
/-! _law_odd -/
theorem sc_law_odd : FnScope ["_law_draw", "_law_some"] ["_law_draw"] (defScope s_law_odd) := C8.fnScope_by (by decide +kernel)
theorem ok_law_odd {f : Addr} {fd : FuncData} (G : Gt K mg) (F : Fun K "_law_odd" "_law_odd" s_law_odd f fd) (c_law_pick : CalD P w K mg base 4 "_law_pick" 2 [] D_law_pick) : FnOk P w K mg base CX0 5 f fd ["_law_draw"] (spD ⟨K, mg⟩ 1 D_law_odd) :=
  have sc := sc_law_odd
  def_ok (k := 4) F sc (fun cdv A outer s H E hr => (fss_cons (fs_set (i := 1) sc.nd rfl (by first | exact Or.inl rfl | exact Or.inr rfl) (fe_lst (fa_cons fe_non (fa_cons fe_bl (fa_cons fe_bl (fa_cons (fe_un unD_neg fe_int) (fa_cons (fe_un unD_neg fe_int) (fa_cons (fe_op opD_pow fe_int fe_int) (fa_cons fe_str (fa_cons fe_str (fa_cons fe_str (fa_cons fe_str (fa_cons fe_str (fa_cons fe_str (fa_cons (fe_tup fa_nil) (fa_cons (fe_tup (fa_cons fe_int fa_nil)) (fa_cons (fe_tup (fa_cons fe_str (fa_cons fe_str fa_nil))) (fa_cons (fe_lst fa_nil) (fa_cons (fe_lst (fa_cons fe_int fa_nil)) (fa_cons fe_dic0 (fa_cons fe_int (fa_cons fe_int fa_nil))))))))))))))))))))))
  (fss_cons (fs_set (i := 1) sc.nd rfl (by first | exact Or.inl rfl | exact Or.inr rfl) (fe_op opD_add (fe_var (i := 1) rfl (by first | exact Or.inl rfl | exact Or.inr (Or.inl rfl) | exact Or.inr (Or.inr rfl))) (fe_lst (fa_cons (fe_lst (fa_cons (fe_lst fa_nil) fa_nil)) (fa_cons (fe_tup (fa_cons fe_bl fa_nil)) (fa_cons (fe_tup (fa_cons fe_int (fa_cons fe_non fa_nil))) (fa_cons fe_str (fa_cons (fe_tup (fa_cons fe_str fa_nil)) (fa_cons (fe_un unD_neg (fe_op opD_pow fe_int fe_int)) (fa_cons (fe_tup (fa_cons fe_int (fa_cons fe_int fa_nil))) (fa_cons fe_str (fa_cons fe_str (fa_cons fe_dicS fa_nil)))))))))))))
  (fss_one (fs_ret (fe_call c_law_pick hr rfl (fa_cons (fe_var (i := 0) rfl (by first | exact Or.inl rfl | exact Or.inr (Or.inl rfl) | exact Or.inr (Or.inr rfl))) (fa_cons (fe_var (i := 1) rfl (by first | exact Or.inl rfl | exact Or.inr (Or.inl rfl) | exact Or.inr (Or.inr rfl))) fa_nil))))))))
/-! _law_bent -/
theorem sc_law_bent : FnScope ["_law_draw", "_law_columns_here", "_law_ties", "_law_at", "_law_found", "_law_lower", "_law_letter", "_law_odd_here", "_law_some", "_law_one"] ["_law_draw", "_law_columns_here", "_law_ties"] (defScope s_law_bent) := C8.fnScope_by (by decide +kernel)
theorem ok_law_bent {f : Addr} {fd : FuncData} (G : Gt K mg) (F : Fun K "_law_bent" "_law_bent" s_law_bent f fd) (c_law_pick : CalD P w K mg base 4 "_law_pick" 2 [] D_law_pick) (c_law_odd : CalD P w K mg base 5 "_law_odd" 1 [] D_law_odd) (c_law_take : CalD P w K mg base 3 "_law_take" 2 [] D_law_take) : FnOk P w K mg base CX0 6 f fd ["_law_draw", "_law_columns_here", "_law_ties"] (spD ⟨K, mg⟩ 3 D_law_bent) :=
  have sc := sc_law_bent
  def_ok (k := 5) F sc (fun cdv A outer s H E hr => (fss_cons (fs_if (ft_w (fw_or (FC.ft (fc_data (opD_eq0 hr) (fe_var (i := 2) rfl (by first | exact Or.inl rfl | exact Or.inr (Or.inl rfl) | exact Or.inr (Or.inr rfl))) (fe_lst fa_nil) rfl)) (fw_or1 (FC.ft (fc_data (opD_eq hr) (fe_call c_law_take hr rfl (fa_cons (fe_var (i := 0) rfl (by first | exact Or.inl rfl | exact Or.inr (Or.inl rfl) | exact Or.inr (Or.inr rfl))) (fa_cons fe_int fa_nil))) fe_int rfl))))) (fss_one (fs_ret (fe_callT c_law_pick hr rfl (pv 0) (fp_cons fe_non (fp_cons fe_int (fp_cons fe_str (fp_cons (fe_sh fe_dic0) (fp_cons (fe_op opD_add (fe_var (i := 2) rfl (by first | exact Or.inl rfl | exact Or.inr (Or.inl rfl) | exact Or.inr (Or.inr rfl))) (fe_lst (fa_cons (fe_call c_law_odd hr rfl (fa_cons (fe_var (i := 0) rfl (by first | exact Or.inl rfl | exact Or.inr (Or.inl rfl) | exact Or.inr (Or.inr rfl))) fa_nil)) fa_nil))) (fp_cons (fe_sh (fe_ditS hr)) fp_nil))))))))) fss_nil)
  (fss_cons (fs_par2 rfl sc.nd (i := 3) (j := 4) rfl rfl (by decide) rfl rfl (fp_cons (fe_call c_law_take hr rfl (fa_cons (fe_var (i := 0) rfl (by first | exact Or.inl rfl | exact Or.inr (Or.inl rfl) | exact Or.inr (Or.inr rfl))) (fa_cons (fe_b bD_len rfl G.n_len bo_len (fa_cons (fe_var (i := 2) rfl (by first | exact Or.inl rfl | exact Or.inr (Or.inl rfl) | exact Or.inr (Or.inr rfl))) fa_nil)) fa_nil))) (fp_cons (fe_ty (bD_list rfl) rfl G.n_list bo_list (fa_cons (fe_var (i := 2) rfl (by first | exact Or.inl rfl | exact Or.inr (Or.inl rfl) | exact Or.inr (Or.inr rfl))) fa_nil)) fp_nil)) rfl)
  (fss_cons (fs_asg (fe_ix ixD_ok (fe_var (i := 4) rfl (by first | exact Or.inl rfl | exact Or.inr (Or.inl rfl) | exact Or.inr (Or.inr rfl))) (fe_var (i := 3) rfl (by first | exact Or.inl rfl | exact Or.inr (Or.inl rfl) | exact Or.inr (Or.inr rfl))) (fun _ _ => rfl)) (fg_tup rfl (fgs_cons (fg_name (i := 5) sc.nd rfl (by first | exact Or.inl rfl | exact Or.inr rfl)) (fgs_cons (fg_name (i := 6) sc.nd rfl (by first | exact Or.inl rfl | exact Or.inr rfl)) fgs_nil)) (n := 2) (hg := (gCons_len (gCons_len gNil_len)))))
  (fss_cons (fs_set (i := 7) sc.nd rfl (by first | exact Or.inl rfl | exact Or.inr rfl) (fe_call c_law_odd hr rfl (fa_cons (fe_var (i := 0) rfl (by first | exact Or.inl rfl | exact Or.inr (Or.inl rfl) | exact Or.inr (Or.inr rfl))) fa_nil)))
  (fss_cons (fs_set (i := 8) sc.nd rfl (by first | exact Or.inl rfl | exact Or.inr rfl) (fe_lst (fa_cons (fe_tup (fa_cons (fe_var (i := 5) rfl (by first | exact Or.inl rfl | exact Or.inr (Or.inl rfl) | exact Or.inr (Or.inr rfl))) (fa_cons (fe_var (i := 6) rfl (by first | exact Or.inl rfl | exact Or.inr (Or.inl rfl) | exact Or.inr (Or.inr rfl))) (fa_cons fe_str fa_nil)))) (fa_cons (fe_lst (fa_cons (fe_var (i := 5) rfl (by first | exact Or.inl rfl | exact Or.inr (Or.inl rfl) | exact Or.inr (Or.inr rfl))) (fa_cons (fe_var (i := 6) rfl (by first | exact Or.inl rfl | exact Or.inr (Or.inl rfl) | exact Or.inr (Or.inr rfl))) fa_nil))) (fa_cons (fe_tup (fa_cons (fe_var (i := 5) rfl (by first | exact Or.inl rfl | exact Or.inr (Or.inl rfl) | exact Or.inr (Or.inr rfl))) fa_nil)) (fa_cons (fe_tup (fa_cons (fe_var (i := 7) rfl (by first | exact Or.inl rfl | exact Or.inr (Or.inl rfl) | exact Or.inr (Or.inr rfl))) (fa_cons (fe_var (i := 6) rfl (by first | exact Or.inl rfl | exact Or.inr (Or.inl rfl) | exact Or.inr (Or.inr rfl))) fa_nil))) (fa_cons (fe_tup (fa_cons (fe_var (i := 5) rfl (by first | exact Or.inl rfl | exact Or.inr (Or.inl rfl) | exact Or.inr (Or.inr rfl))) (fa_cons (fe_var (i := 7) rfl (by first | exact Or.inl rfl | exact Or.inr (Or.inl rfl) | exact Or.inr (Or.inr rfl))) fa_nil))) (fa_cons (fe_tup (fa_cons (fe_var (i := 5) rfl (by first | exact Or.inl rfl | exact Or.inr (Or.inl rfl) | exact Or.inr (Or.inr rfl))) (fa_cons fe_str fa_nil))) (fa_cons (fe_tup (fa_cons (fe_var (i := 5) rfl (by first | exact Or.inl rfl | exact Or.inr (Or.inl rfl) | exact Or.inr (Or.inr rfl))) (fa_cons fe_str fa_nil))) fa_nil)))))))))
  (fss_cons (fs_set (i := 8) sc.nd rfl (by first | exact Or.inl rfl | exact Or.inr rfl) (fe_op opD_add (fe_var (i := 8) rfl (by first | exact Or.inl rfl | exact Or.inr (Or.inl rfl) | exact Or.inr (Or.inr rfl))) (fe_lst (fa_cons (fe_tup (fa_cons (fe_op opD_add (fe_var (i := 5) rfl (by first | exact Or.inl rfl | exact Or.inr (Or.inl rfl) | exact Or.inr (Or.inr rfl))) fe_str) (fa_cons (fe_var (i := 6) rfl (by first | exact Or.inl rfl | exact Or.inr (Or.inl rfl) | exact Or.inr (Or.inr rfl))) fa_nil))) (fa_cons (fe_tup (fa_cons (fe_op opD_add fe_str (fe_var (i := 5) rfl (by first | exact Or.inl rfl | exact Or.inr (Or.inl rfl) | exact Or.inr (Or.inr rfl)))) (fa_cons (fe_var (i := 6) rfl (by first | exact Or.inl rfl | exact Or.inr (Or.inl rfl) | exact Or.inr (Or.inr rfl))) fa_nil))) (fa_cons (fe_tup (fa_cons (fe_var (i := 5) rfl (by first | exact Or.inl rfl | exact Or.inr (Or.inl rfl) | exact Or.inr (Or.inr rfl))) (fa_cons (fe_op opD_add (fe_var (i := 6) rfl (by first | exact Or.inl rfl | exact Or.inr (Or.inl rfl) | exact Or.inr (Or.inr rfl))) (fe_var (i := 6) rfl (by first | exact Or.inl rfl | exact Or.inr (Or.inl rfl) | exact Or.inr (Or.inr rfl)))) fa_nil))) (fa_cons (fe_tup (fa_cons (fe_op opD_add (fe_var (i := 5) rfl (by first | exact Or.inl rfl | exact Or.inr (Or.inl rfl) | exact Or.inr (Or.inr rfl))) (fe_var (i := 5) rfl (by first | exact Or.inl rfl | exact Or.inr (Or.inl rfl) | exact Or.inr (Or.inr rfl)))) (fa_cons (fe_var (i := 6) rfl (by first | exact Or.inl rfl | exact Or.inr (Or.inl rfl) | exact Or.inr (Or.inr rfl))) fa_nil))) (fa_cons (fe_var (i := 7) rfl (by first | exact Or.inl rfl | exact Or.inr (Or.inl rfl) | exact Or.inr (Or.inr rfl))) fa_nil))))))))
  (fss_cons (fs_set (i := 8) sc.nd rfl (by first | exact Or.inl rfl | exact Or.inr rfl) (fe_op opD_add (fe_op opD_add (fe_var (i := 8) rfl (by first | exact Or.inl rfl | exact Or.inr (Or.inl rfl) | exact Or.inr (Or.inr rfl))) (fe_lc rfl sc.nd (own := [("_law_one", 9)]) (fi_val (fe_lst (fa_cons fe_str (fa_cons fe_str (fa_cons fe_str (fa_cons fe_str (fa_cons fe_str (fa_cons fe_str fa_nil)))))))) (blkOk_by (by show blkC ["_law_draw", "_law_columns_here", "_law_ties", "_law_at", "_law_found", "_law_lower", "_law_letter", "_law_odd_here", "_law_some", "_law_one"] (defScope s_law_bent) _ [("_law_one", 9)] = true; decide +kernel)) (fun _ _ _ _ _ => (fg_name (i := 9) sc.nd rfl (by first | exact Or.inl rfl | exact Or.inr rfl))) (fun _ _ _ _ _ => fts_nil) (fun _ _ _ _ _ => (fe_tup (fa_cons (fe_var (i := 9) rfl (by first | exact Or.inl rfl | exact Or.inr (Or.inl rfl) | exact Or.inr (Or.inr rfl))) (fa_cons (fe_var (i := 6) rfl (by first | exact Or.inl rfl | exact Or.inr (Or.inl rfl) | exact Or.inr (Or.inr rfl))) fa_nil)))))) (fe_lc rfl sc.nd (own := [("_law_one", 9)]) (fi_val fe_str) (blkOk_by (by show blkC ["_law_draw", "_law_columns_here", "_law_ties", "_law_at", "_law_found", "_law_lower", "_law_letter", "_law_odd_here", "_law_some", "_law_one"] (defScope s_law_bent) _ [("_law_one", 9)] = true; decide +kernel)) (fun _ _ _ _ _ => (fg_name (i := 9) sc.nd rfl (by first | exact Or.inl rfl | exact Or.inr rfl))) (fun _ _ _ _ _ => fts_nil) (fun _ _ _ _ _ => (fe_tup (fa_cons (fe_var (i := 5) rfl (by first | exact Or.inl rfl | exact Or.inr (Or.inl rfl) | exact Or.inr (Or.inr rfl))) (fa_cons (fe_var (i := 9) rfl (by first | exact Or.inl rfl | exact Or.inr (Or.inl rfl) | exact Or.inr (Or.inr rfl))) fa_nil)))))))
  (fss_cons (fs_lput (pv 4) (fe_var (i := 3) rfl (by first | exact Or.inl rfl | exact Or.inr (Or.inl rfl) | exact Or.inr (Or.inr rfl))) (fe_call c_law_pick hr rfl (fa_cons (fe_var (i := 0) rfl (by first | exact Or.inl rfl | exact Or.inr (Or.inl rfl) | exact Or.inr (Or.inr rfl))) (fa_cons (fe_var (i := 8) rfl (by first | exact Or.inl rfl | exact Or.inr (Or.inl rfl) | exact Or.inr (Or.inr rfl))) fa_nil))))
  (fss_one (fs_ret (fe_var (i := 4) rfl (by first | exact Or.inl rfl | exact Or.inr (Or.inl rfl) | exact Or.inr (Or.inr rfl))))))))))))))
/-! _law_letters -/
theorem sc_law_letters : FnScope ["_law_draw", "_law_some", "_law_one"] ["_law_draw", "_law_some"] (defScope s_law_letters) := C8.fnScope_by (by decide +kernel)
theorem ok_law_letters {f : Addr} {fd : FuncData} (G : Gt K mg) (F : Fun K "_law_letters" "_law_letters" s_law_letters f fd) (c_law_take : CalD P w K mg base 3 "_law_take" 2 [] D_law_take) : FnOk P w K mg base CX0 4 f fd ["_law_draw", "_law_some"] (spD ⟨K, mg⟩ 2 D_law_letters) :=
  have sc := sc_law_letters
  def_ok (k := 3) F sc (fun cdv A outer s H E hr => (fss_one (fs_ret (fe_m1 PySem.F.slot_str_join PySem.F.type_str_join mD_join fe_str (fe_lc rfl sc.nd (own := [("_law_one", 2)]) (fi_val (fe_var (i := 1) rfl (by first | exact Or.inl rfl | exact Or.inr (Or.inl rfl) | exact Or.inr (Or.inr rfl)))) (blkOk_by (by show blkC ["_law_draw", "_law_some", "_law_one"] (defScope s_law_letters) _ [("_law_one", 2)] = true; decide +kernel)) (fun _ _ _ _ _ => (fg_name (i := 2) sc.nd rfl (by first | exact Or.inl rfl | exact Or.inr rfl))) (fun _ _ _ _ _ => (fts_one (FC.ft (fc_data (opD_eq hr) (fe_call c_law_take hr rfl (fa_cons (fe_var (i := 0) rfl (by first | exact Or.inl rfl | exact Or.inr (Or.inl rfl) | exact Or.inr (Or.inr rfl))) (fa_cons fe_int fa_nil))) fe_int rfl)))) (fun _ _ _ _ _ => (fe_var (i := 2) rfl (by first | exact Or.inl rfl | exact Or.inr (Or.inl rfl) | exact Or.inr (Or.inr rfl)))))))))
/-! _law_columns -/
theorem sc_law_columns : FnScope ["_law_draw", "_law_most", "_law_left", "_law_many"] ["_law_draw", "_law_most"] (defScope s_law_columns) := C8.fnScope_by (by decide +kernel)
theorem ok_law_columns {f : Addr} {fd : FuncData} (G : Gt K mg) (F : Fun K "_law_columns" "_law_columns" s_law_columns f fd) (c_law_take : CalD P w K mg base 3 "_law_take" 2 [] D_law_take) : FnOk P w K mg base CX0 4 f fd ["_law_draw", "_law_most"] (spD ⟨K, mg⟩ 2 D_law_columns) :=
  have sc := sc_law_columns
  def_ok (k := 3) F sc (fun cdv A outer s H E hr => (fss_cons (fs_par2 rfl sc.nd (i := 2) (j := 3) rfl rfl (by decide) rfl rfl (fp_cons (fe_ty (bD_list rfl) rfl G.n_list bo_list (fa_cons fe_str fa_nil)) (fp_cons (fe_op opD_add fe_int (fe_call c_law_take hr rfl (fa_cons (fe_var (i := 0) rfl (by first | exact Or.inl rfl | exact Or.inr (Or.inl rfl) | exact Or.inr (Or.inr rfl))) (fa_cons (fe_var (i := 1) rfl (by first | exact Or.inl rfl | exact Or.inr (Or.inl rfl) | exact Or.inr (Or.inr rfl))) fa_nil)))) fp_nil)) rfl)
  (fss_cons (fs_while 1000000 PassesOwn.never (FC.ft (fc_data opD_gt (fe_b bD_len rfl G.n_len bo_len (fa_cons (fe_var (i := 2) rfl (by first | exact Or.inl rfl | exact Or.inr (Or.inl rfl) | exact Or.inr (Or.inr rfl))) fa_nil)) (fe_var (i := 3) rfl (by first | exact Or.inl rfl | exact Or.inr (Or.inl rfl) | exact Or.inr (Or.inr rfl))) rfl)) (fss_one (fs_expr (fe_pop (pv 2) (fe_call c_law_take hr rfl (fa_cons (fe_var (i := 0) rfl (by first | exact Or.inl rfl | exact Or.inr (Or.inl rfl) | exact Or.inr (Or.inr rfl))) (fa_cons (fe_b bD_len rfl G.n_len bo_len (fa_cons (fe_var (i := 2) rfl (by first | exact Or.inl rfl | exact Or.inr (Or.inl rfl) | exact Or.inr (Or.inr rfl))) fa_nil)) fa_nil)))))))
  (fss_one (fs_ret (fe_m1 PySem.F.slot_str_join PySem.F.type_str_join mD_join fe_str (fe_var (i := 2) rfl (by first | exact Or.inl rfl | exact Or.inr (Or.inl rfl) | exact Or.inr (Or.inr rfl)))))))))
/-! _law_drawn -/
theorem sc_law_drawn : FnScope ["_law_draw", "_law_most", "_law_ties", "_law_columns_here", "_law_found", "_law_turn", "_law_lower"] ["_law_draw", "_law_most", "_law_ties"] (defScope s_law_drawn) := C8.fnScope_by (by decide +kernel)
theorem ok_law_drawn {f : Addr} {fd : FuncData} (G : Gt K mg) (F : Fun K "_law_drawn" "_law_drawn" s_law_drawn f fd) (c_law_pick : CalD P w K mg base 4 "_law_pick" 2 [] D_law_pick) (c_law_take : CalD P w K mg base 3 "_law_take" 2 [] D_law_take) (c_law_letters : CalD P w K mg base 4 "_law_letters" 2 [] D_law_letters) (c_law_columns : CalD P w K mg base 4 "_law_columns" 2 [] D_law_columns) : FnOk P w K mg base CX0 5 f fd ["_law_draw", "_law_most", "_law_ties"] (spD ⟨K, mg⟩ 3 D_law_drawn) :=
  have sc := sc_law_drawn
  def_ok (k := 4) F sc (fun cdv A outer s H E hr => (fss_cons (fs_par2 rfl sc.nd (i := 3) (j := 4) rfl rfl (by decide) rfl rfl (fp_cons (fe_call c_law_columns hr rfl (fa_cons (fe_var (i := 0) rfl (by first | exact Or.inl rfl | exact Or.inr (Or.inl rfl) | exact Or.inr (Or.inr rfl))) (fa_cons (fe_var (i := 1) rfl (by first | exact Or.inl rfl | exact Or.inr (Or.inl rfl) | exact Or.inr (Or.inr rfl))) fa_nil))) (fp_cons (fe_lst fa_nil) fp_nil)) rfl)
  (fss_cons (fs_for PassesOwn.never rfl (fi_range1 rfl G.n_range (fa_cons (fe_call c_law_pick hr rfl (fa_cons (fe_var (i := 0) rfl (by first | exact Or.inl rfl | exact Or.inr (Or.inl rfl) | exact Or.inr (Or.inr rfl))) (fa_cons (fe_lst (fa_cons fe_int (fa_cons fe_int (fa_cons fe_int (fa_cons fe_int (fa_cons (fe_call c_law_take hr rfl (fa_cons (fe_var (i := 0) rfl (by first | exact Or.inl rfl | exact Or.inr (Or.inl rfl) | exact Or.inr (Or.inr rfl))) (fa_cons (fe_op opD_add (fe_var (i := 2) rfl (by first | exact Or.inl rfl | exact Or.inr (Or.inl rfl) | exact Or.inr (Or.inr rfl))) fe_int) fa_nil))) fa_nil)))))) fa_nil))) fa_nil)) (fg_name (i := 5) sc.nd rfl (by first | exact Or.inl rfl | exact Or.inr rfl))
   (fss_cons (fs_set (i := 6) sc.nd rfl (by first | exact Or.inl rfl | exact Or.inr rfl) (fe_call c_law_letters hr rfl (fa_cons (fe_var (i := 0) rfl (by first | exact Or.inl rfl | exact Or.inr (Or.inl rfl) | exact Or.inr (Or.inr rfl))) (fa_cons (fe_op opD_add (fe_var (i := 3) rfl (by first | exact Or.inl rfl | exact Or.inr (Or.inl rfl) | exact Or.inr (Or.inr rfl))) fe_str) fa_nil))))
  (fss_cons (fs_if (ft_w (fw_and (FC.ft (fc_data (opD_eq hr) (fe_var (i := 6) rfl (by first | exact Or.inl rfl | exact Or.inr (Or.inl rfl) | exact Or.inr (Or.inr rfl))) fe_str rfl)) (fw_and1 (FC.ft (fc_data opD_gt (fe_call c_law_take hr rfl (fa_cons (fe_var (i := 0) rfl (by first | exact Or.inl rfl | exact Or.inr (Or.inl rfl) | exact Or.inr (Or.inr rfl))) (fa_cons fe_int fa_nil))) fe_int rfl))))) (fss_one (fs_set (i := 6) sc.nd rfl (by first | exact Or.inl rfl | exact Or.inr rfl) (fe_call c_law_pick hr rfl (fa_cons (fe_var (i := 0) rfl (by first | exact Or.inl rfl | exact Or.inr (Or.inl rfl) | exact Or.inr (Or.inr rfl))) (fa_cons (fe_ty (bD_list rfl) rfl G.n_list bo_list (fa_cons (fe_var (i := 3) rfl (by first | exact Or.inl rfl | exact Or.inr (Or.inl rfl) | exact Or.inr (Or.inr rfl))) fa_nil)) fa_nil))))) fss_nil)
  (fss_one (fs_expr (fe_append (pv 4) (fe_tup (fa_cons (fe_var (i := 6) rfl (by first | exact Or.inl rfl | exact Or.inr (Or.inl rfl) | exact Or.inr (Or.inr rfl))) (fa_cons (fe_call c_law_pick hr rfl (fa_cons (fe_var (i := 0) rfl (by first | exact Or.inl rfl | exact Or.inr (Or.inl rfl) | exact Or.inr (Or.inr rfl))) (fa_cons (fe_ty (bD_list rfl) rfl G.n_list bo_list (fa_cons (fe_op opD_add (fe_var (i := 3) rfl (by first | exact Or.inl rfl | exact Or.inr (Or.inl rfl) | exact Or.inr (Or.inr rfl))) fe_str) fa_nil)) fa_nil))) fa_nil)))))))))
  (fss_one (fs_ret (fe_tup (fa_cons (fe_var (i := 3) rfl (by first | exact Or.inl rfl | exact Or.inr (Or.inl rfl) | exact Or.inr (Or.inr rfl))) (fa_cons (fe_ty bD_tup rfl G.n_tuple bo_tuple (fa_cons (fe_sl (fe_var (i := 4) rfl (by first | exact Or.inl rfl | exact Or.inr (Or.inl rfl) | exact Or.inr (Or.inr rfl))) fo_none (fo_some (fe_var (i := 2) rfl (by first | exact Or.inl rfl | exact Or.inr (Or.inl rfl) | exact Or.inr (Or.inr rfl))))) fa_nil)) fa_nil))))))))
/-! law -/
theorem sc_law : FnScope ["_law_script", "_law_draw", "_law_turn", "_law_ties", "_law_more", "_law_looks", "_law_one", "_law_base", "_law_due_here", "_law_kept", "_law_told_here", "_law_again"] ["_law_script"] (defScope s_law) := C8.fnScope_by (by decide +kernel)
theorem ok_law {f g : Addr} {fd fdg : FuncData} {psg : List Str} (G : Gt K mg) (F : Fun K "law" "law" s_law f fd) (FB : FnOk P w K mg base CX0 2 g fdg psg (spB ⟨K, mg⟩ beg)) (mb : mg "_law_begun" = some (.ref g)) (kpb : PySem.W.keepIn K (.ref g) = true) (bb : Binds K fdg psg []) (hS : SmB base) (c_k_Scheme_init_1 : MakD P w K mg base 6 "Scheme" 3 [.ktup []] I_Scheme) (c_k_Scheme_init_2 : MakD P w K mg base 6 "Scheme" 3 [] I_Scheme) (c_q_Scheme_eq : EqsD P w K mg base 7 "Scheme" icq_Scheme D_Scheme_eq) (c_p_Scheme_dependences : PrpD P w K mg base 2 "Scheme" "dependences" D_Scheme_dependences) (c_p_Scheme_columns : PrpD P w K mg base 2 "Scheme" "columns" D_Scheme_columns) (c_kk_Scheme_init_dependences_columns : MkkD P w K mg base 6 "Scheme" 3 ["dependences", "columns"] [1, 0] I_Scheme) (c_law_told : CalD P w K mg base 8 "_law_told" 2 [] D_law_told) (c_law_due : CalD P w K mg base 4 "_law_due" 2 [] D_law_due) (c_law_take : CalD P w K mg base 3 "_law_take" 2 [] D_law_take) (c_law_pick : CalD P w K mg base 4 "_law_pick" 2 [] D_law_pick) (c_law_odd : CalD P w K mg base 5 "_law_odd" 1 [] D_law_odd) (c_law_bent : CalD P w K mg base 6 "_law_bent" 3 [] D_law_bent) (c_law_drawn : CalD P w K mg base 5 "_law_drawn" 3 [] D_law_drawn) : LG.FnG P w K mg base 9 f fd ["_law_script"] (spL ⟨K, mg⟩ law) :=
  have sc := sc_law
  law_ok (k := 8) F sc FB mb kpb bb (by decide) rfl rfl rfl (by first | exact Or.inl rfl | exact Or.inr (Or.inl rfl) | exact Or.inr (Or.inr rfl)) (by first | exact Or.inl rfl | exact Or.inr rfl) rfl (by decide +kernel) (by decide +kernel) (by decide +kernel) (fun cdv A outer s H E hr hG => (fss_cons (fs_for PassesOwn.never rfl (fi_range1 rfl G.n_range (fa_cons (fe_op opD_add fe_int (fe_b (bD_min rfl) rfl G.n_min bo_min (fa_cons (fe_b bD_len rfl G.n_len bo_len (fa_cons (fe_var (i := 0) rfl (by first | exact Or.inl rfl | exact Or.inr (Or.inl rfl) | exact Or.inr (Or.inr rfl))) fa_nil)) (fa_cons fe_int fa_nil)))) fa_nil)) (fg_name (i := 2) sc.nd rfl (by first | exact Or.inl rfl | exact Or.inr rfl))
   (fss_cons (fs_asg (fe_call c_law_drawn hr rfl (fa_cons (fe_var (i := 1) rfl (by first | exact Or.inl rfl | exact Or.inr (Or.inl rfl) | exact Or.inr (Or.inr rfl))) (fa_cons fe_int (fa_cons fe_int fa_nil)))) (fg_tup rfl (fgs_cons (fg_name (i := 7) sc.nd rfl (by first | exact Or.inl rfl | exact Or.inr rfl)) (fgs_cons (fg_name (i := 3) sc.nd rfl (by first | exact Or.inl rfl | exact Or.inr rfl)) fgs_nil)) (n := 2) (hg := (gCons_len (gCons_len gNil_len)))))
  (fss_cons (fs_set (i := 3) sc.nd rfl (by first | exact Or.inl rfl | exact Or.inr rfl) (fe_ty (bD_list rfl) rfl G.n_list bo_list (fa_cons (fe_var (i := 3) rfl (by first | exact Or.inl rfl | exact Or.inr (Or.inl rfl) | exact Or.inr (Or.inr rfl))) fa_nil)))
  (fss_cons (fs_if (FC.ft (fc_data (opD_eq hr) (fe_call c_law_take hr rfl (fa_cons (fe_var (i := 1) rfl (by first | exact Or.inl rfl | exact Or.inr (Or.inl rfl) | exact Or.inr (Or.inr rfl))) (fa_cons fe_int fa_nil))) fe_int rfl)) (fss_cons (fs_set (i := 3) sc.nd rfl (by first | exact Or.inl rfl | exact Or.inr rfl) (fe_op opD_rep (fe_op opD_add (fe_var (i := 3) rfl (by first | exact Or.inl rfl | exact Or.inr (Or.inl rfl) | exact Or.inr (Or.inr rfl))) (fe_lst (fa_cons (fe_tup (fa_cons fe_str (fa_cons (fe_ix ixD_ok (fe_var (i := 7) rfl (by first | exact Or.inl rfl | exact Or.inr (Or.inl rfl) | exact Or.inr (Or.inr rfl))) fe_int (fun _ _ => rfl)) fa_nil))) fa_nil))) fe_int))
  (fss_one (fs_set (i := 3) sc.nd rfl (by first | exact Or.inl rfl | exact Or.inr rfl) (fe_sl (fe_var (i := 3) rfl (by first | exact Or.inl rfl | exact Or.inr (Or.inl rfl) | exact Or.inr (Or.inr rfl))) fo_none (fo_some (fe_call c_law_pick hr rfl (fa_cons (fe_var (i := 1) rfl (by first | exact Or.inl rfl | exact Or.inr (Or.inl rfl) | exact Or.inr (Or.inr rfl))) (fa_cons (fe_lst (fa_cons fe_int (fa_cons fe_int (fa_cons fe_int (fa_cons fe_int fa_nil))))) fa_nil)))))))) fss_nil)
  (fss_cons (fs_if (FC.ft (fc_data (opD_eq hr) (fe_call c_law_take hr rfl (fa_cons (fe_var (i := 1) rfl (by first | exact Or.inl rfl | exact Or.inr (Or.inl rfl) | exact Or.inr (Or.inr rfl))) (fa_cons fe_int fa_nil))) fe_int rfl)) (fss_one (fs_set (i := 3) sc.nd rfl (by first | exact Or.inl rfl | exact Or.inr rfl) (fe_call c_law_bent hr rfl (fa_cons (fe_var (i := 1) rfl (by first | exact Or.inl rfl | exact Or.inr (Or.inl rfl) | exact Or.inr (Or.inr rfl))) (fa_cons (fe_var (i := 7) rfl (by first | exact Or.inl rfl | exact Or.inr (Or.inl rfl) | exact Or.inr (Or.inr rfl))) (fa_cons (fe_var (i := 3) rfl (by first | exact Or.inl rfl | exact Or.inr (Or.inl rfl) | exact Or.inr (Or.inr rfl))) fa_nil)))))) fss_nil)
  (fss_cons (fs_if (FC.ft (fc_data (opD_eq hr) (fe_call c_law_take hr rfl (fa_cons (fe_var (i := 1) rfl (by first | exact Or.inl rfl | exact Or.inr (Or.inl rfl) | exact Or.inr (Or.inr rfl))) (fa_cons fe_int fa_nil))) fe_int rfl)) (fss_one (fs_set (i := 7) sc.nd rfl (by first | exact Or.inl rfl | exact Or.inr rfl) (fe_call c_law_pick hr rfl (fa_cons (fe_var (i := 1) rfl (by first | exact Or.inl rfl | exact Or.inr (Or.inl rfl) | exact Or.inr (Or.inr rfl))) (fa_cons (fe_lst (fa_cons (fe_revS (fe_var (i := 7) rfl (by first | exact Or.inl rfl | exact Or.inr (Or.inl rfl) | exact Or.inr (Or.inr rfl)))) (fa_cons (fe_op opD_add (fe_var (i := 7) rfl (by first | exact Or.inl rfl | exact Or.inr (Or.inl rfl) | exact Or.inr (Or.inr rfl))) fe_str) (fa_cons (fe_op opD_add (fe_var (i := 7) rfl (by first | exact Or.inl rfl | exact Or.inr (Or.inl rfl) | exact Or.inr (Or.inr rfl))) fe_str) (fa_cons fe_str (fa_cons fe_str (fa_cons fe_str (fa_cons (fe_call c_law_odd hr rfl (fa_cons (fe_var (i := 1) rfl (by first | exact Or.inl rfl | exact Or.inr (Or.inl rfl) | exact Or.inr (Or.inr rfl))) fa_nil)) fa_nil)))))))) fa_nil))))) fss_nil)
  (fss_cons (fs_par2 rfl sc.nd (i := 8) (j := 9) rfl rfl (by decide) rfl rfl (fp_cons (fe_alt (fe_showA (fe_call c_law_due hr rfl (fa_cons (fe_var (i := 7) rfl (by first | exact Or.inl rfl | exact Or.inr (Or.inl rfl) | exact Or.inr (Or.inr rfl))) (fa_cons (fe_var (i := 3) rfl (by first | exact Or.inl rfl | exact Or.inr (Or.inl rfl) | exact Or.inr (Or.inr rfl))) fa_nil)))) (fe_call c_law_due hr rfl (fa_cons (fe_var (i := 7) rfl (by first | exact Or.inl rfl | exact Or.inr (Or.inl rfl) | exact Or.inr (Or.inr rfl))) (fa_cons (fe_var (i := 3) rfl (by first | exact Or.inl rfl | exact Or.inr (Or.inl rfl) | exact Or.inr (Or.inr rfl))) fa_nil)))) (fp_cons (fe_alt (fe_showA (fe_b (bD_reprW hS hr hG) rfl G.n_repr bo_repr (fa_cons (fe_tup (fa_cons (fe_var (i := 7) rfl (by first | exact Or.inl rfl | exact Or.inr (Or.inl rfl) | exact Or.inr (Or.inr rfl))) (fa_cons (fe_var (i := 3) rfl (by first | exact Or.inl rfl | exact Or.inr (Or.inl rfl) | exact Or.inr (Or.inr rfl))) fa_nil))) fa_nil))) (fe_b (bD_reprW hS hr hG) rfl G.n_repr bo_repr (fa_cons (fe_tup (fa_cons (fe_var (i := 7) rfl (by first | exact Or.inl rfl | exact Or.inr (Or.inl rfl) | exact Or.inr (Or.inr rfl))) (fa_cons (fe_var (i := 3) rfl (by first | exact Or.inl rfl | exact Or.inr (Or.inl rfl) | exact Or.inr (Or.inr rfl))) fa_nil))) fa_nil))) fp_nil)) rfl)
  (fss_cons (fs_par2 rfl sc.nd (i := 10) (j := 11) rfl rfl (by decide) rfl rfl (fp_cons (fe_alt (fe_showA (fe_call c_law_told hr rfl (fa_cons (fe_var (i := 7) rfl (by first | exact Or.inl rfl | exact Or.inr (Or.inl rfl) | exact Or.inr (Or.inr rfl))) (fa_cons (fe_var (i := 3) rfl (by first | exact Or.inl rfl | exact Or.inr (Or.inl rfl) | exact Or.inr (Or.inr rfl))) fa_nil)))) (fe_call c_law_told hr rfl (fa_cons (fe_var (i := 7) rfl (by first | exact Or.inl rfl | exact Or.inr (Or.inl rfl) | exact Or.inr (Or.inr rfl))) (fa_cons (fe_var (i := 3) rfl (by first | exact Or.inl rfl | exact Or.inr (Or.inl rfl) | exact Or.inr (Or.inr rfl))) fa_nil)))) (fp_cons (fe_alt (fe_showA (fe_call c_law_told hr rfl (fa_cons (fe_var (i := 7) rfl (by first | exact Or.inl rfl | exact Or.inr (Or.inl rfl) | exact Or.inr (Or.inr rfl))) (fa_cons (fe_var (i := 3) rfl (by first | exact Or.inl rfl | exact Or.inr (Or.inl rfl) | exact Or.inr (Or.inr rfl))) fa_nil)))) (fe_call c_law_told hr rfl (fa_cons (fe_var (i := 7) rfl (by first | exact Or.inl rfl | exact Or.inr (Or.inl rfl) | exact Or.inr (Or.inr rfl))) (fa_cons (fe_var (i := 3) rfl (by first | exact Or.inl rfl | exact Or.inr (Or.inl rfl) | exact Or.inr (Or.inr rfl))) fa_nil)))) fp_nil)) rfl)
  (fss_cons (fs_if (FC.ft (fc_data (opD_ne hr) (fe_alt (fe_showA (fe_b (bD_reprW hS hr hG) rfl G.n_repr bo_repr (fa_cons (fe_tup (fa_cons (fe_var (i := 7) rfl (by first | exact Or.inl rfl | exact Or.inr (Or.inl rfl) | exact Or.inr (Or.inr rfl))) (fa_cons (fe_var (i := 3) rfl (by first | exact Or.inl rfl | exact Or.inr (Or.inl rfl) | exact Or.inr (Or.inr rfl))) fa_nil))) fa_nil))) (fe_b (bD_reprW hS hr hG) rfl G.n_repr bo_repr (fa_cons (fe_tup (fa_cons (fe_var (i := 7) rfl (by first | exact Or.inl rfl | exact Or.inr (Or.inl rfl) | exact Or.inr (Or.inr rfl))) (fa_cons (fe_var (i := 3) rfl (by first | exact Or.inl rfl | exact Or.inr (Or.inl rfl) | exact Or.inr (Or.inr rfl))) fa_nil))) fa_nil))) (fe_var (i := 9) rfl (by first | exact Or.inl rfl | exact Or.inr (Or.inl rfl) | exact Or.inr (Or.inr rfl))) rfl)) (fss_one (fs_ret fe_bl)) fss_nil)
  (fss_cons (fs_if (FC.ft (fc_notN (fe_var (i := 8) rfl (by first | exact Or.inl rfl | exact Or.inr (Or.inl rfl) | exact Or.inr (Or.inr rfl))))) (fss_cons (fs_if (ft_w (fw_or (ft_not (ft_val (fe_isi rfl G.n_isinstance (pe_bltn (v := .ty "list") rfl G.n_list PyProof.Rows.boot_list rfl) (.ty _) G.i_list (fe_var (i := 10) rfl (by first | exact Or.inl rfl | exact Or.inr (Or.inl rfl) | exact Or.inr (Or.inr rfl)))))) (fw_or1 (FC.ft (fc_data (opD_ne hr) (fe_b (bD_reprW hS hr hG) rfl G.n_repr bo_repr (fa_cons (fe_lst (fa_cons (fe_var (i := 10) rfl (by first | exact Or.inl rfl | exact Or.inr (Or.inl rfl) | exact Or.inr (Or.inr rfl))) (fa_cons (fe_var (i := 11) rfl (by first | exact Or.inl rfl | exact Or.inr (Or.inl rfl) | exact Or.inr (Or.inr rfl))) fa_nil))) fa_nil)) (fe_b (bD_reprW hS hr hG) rfl G.n_repr bo_repr (fa_cons (fe_lst (fa_cons (fe_var (i := 8) rfl (by first | exact Or.inl rfl | exact Or.inr (Or.inl rfl) | exact Or.inr (Or.inr rfl))) (fa_cons (fe_var (i := 8) rfl (by first | exact Or.inl rfl | exact Or.inr (Or.inl rfl) | exact Or.inr (Or.inr rfl))) fa_nil))) fa_nil)) rfl))))) (fss_one (fs_ret fe_bl)) fss_nil)
  (fss_one fs_cont)) fss_nil)
  (fss_cons (fs_if (ft_w (fw_or (ft_not (ft_val (fe_isiC G.i_Scheme rfl G.n_isinstance rfl (fe_var (i := 10) rfl (by first | exact Or.inl rfl | exact Or.inr (Or.inl rfl) | exact Or.inr (Or.inr rfl)))))) (fw_or1 (FC.ft (fc_neO c_q_Scheme_eq hr (fe_var (i := 10) rfl (by first | exact Or.inl rfl | exact Or.inr (Or.inl rfl) | exact Or.inr (Or.inr rfl))) (fe_var (i := 11) rfl (by first | exact Or.inl rfl | exact Or.inr (Or.inl rfl) | exact Or.inr (Or.inr rfl)))))))) (fss_one (fs_ret fe_bl)) fss_nil)
  (fss_cons (fs_set (i := 4) sc.nd rfl (by first | exact Or.inl rfl | exact Or.inr rfl) (fe_sh (fe_makeK c_kk_Scheme_init_dependences_columns hr rfl (fk_cons (fe_ty bD_tup rfl G.n_tuple bo_tuple (fa_cons (fe_var (i := 3) rfl (by first | exact Or.inl rfl | exact Or.inr (Or.inl rfl) | exact Or.inr (Or.inr rfl))) fa_nil)) (fk_cons (fe_var (i := 7) rfl (by first | exact Or.inl rfl | exact Or.inr (Or.inl rfl) | exact Or.inr (Or.inr rfl))) fk_nil)))))
  (fss_cons (fs_set (i := 5) sc.nd rfl (by first | exact Or.inl rfl | exact Or.inr rfl) (fe_b (bD_reprW hS hr hG) rfl G.n_repr bo_repr (fa_cons (fe_tup (fa_cons (fe_var (i := 7) rfl (by first | exact Or.inl rfl | exact Or.inr (Or.inl rfl) | exact Or.inr (Or.inr rfl))) (fa_cons (fe_ty bD_tup rfl G.n_tuple bo_tuple (fa_cons (fe_var (i := 3) rfl (by first | exact Or.inl rfl | exact Or.inr (Or.inl rfl) | exact Or.inr (Or.inr rfl))) fa_nil)) fa_nil))) fa_nil)))
  (fss_cons (fs_if (ft_val (fe_isi rfl G.n_isinstance (pe_bltn (v := .ty "list") rfl G.n_list PyProof.Rows.boot_list rfl) (.ty _) G.i_list (fe_var (i := 3) rfl (by first | exact Or.inl rfl | exact Or.inr (Or.inl rfl) | exact Or.inr (Or.inr rfl))))) (fss_cons (fs_expr (fe_append (pv 3) (fe_tup (fa_cons fe_str (fa_cons fe_str fa_nil)))))
  (fss_one (fs_expr (fe_reverse (pv 3))))) fss_nil)
  (fss_cons (fs_for PassesOwn.never rfl (fi_val (fe_lst (fa_cons (fe_var (i := 10) rfl (by first | exact Or.inl rfl | exact Or.inr (Or.inl rfl) | exact Or.inr (Or.inr rfl))) (fa_cons (fe_var (i := 11) rfl (by first | exact Or.inl rfl | exact Or.inr (Or.inl rfl) | exact Or.inr (Or.inr rfl))) (fa_cons (fe_var (i := 4) rfl (by first | exact Or.inl rfl | exact Or.inr (Or.inl rfl) | exact Or.inr (Or.inr rfl))) fa_nil))))) (fg_name (i := 6) sc.nd rfl (by first | exact Or.inl rfl | exact Or.inr rfl))
   (fss_one (fs_if (FC.ft (fc_data (opD_ne hr) (fe_b (bD_reprW hS hr hG) rfl G.n_repr bo_repr (fa_cons (fe_tup (fa_cons (fe_prop c_p_Scheme_columns hr (fe_var (i := 6) rfl (by first | exact Or.inl rfl | exact Or.inr (Or.inl rfl) | exact Or.inr (Or.inr rfl)))) (fa_cons (fe_prop c_p_Scheme_dependences hr (fe_var (i := 6) rfl (by first | exact Or.inl rfl | exact Or.inr (Or.inl rfl) | exact Or.inr (Or.inr rfl)))) fa_nil))) fa_nil)) (fe_var (i := 5) rfl (by first | exact Or.inl rfl | exact Or.inr (Or.inl rfl) | exact Or.inr (Or.inr rfl))) rfl)) (fss_one (fs_ret fe_bl)) fss_nil)))
  (fss_one (fs_if (ft_w (fw_or (FC.ft (fc_data (opD_ne hr) (fe_prop c_p_Scheme_dependences hr (fe_make c_k_Scheme_init_1 hr rfl (fa_cons (fe_var (i := 7) rfl (by first | exact Or.inl rfl | exact Or.inr (Or.inl rfl) | exact Or.inr (Or.inr rfl))) fa_nil))) (fe_tup fa_nil) rfl)) (fw_or1 (FC.ft (fc_neO c_q_Scheme_eq hr (fe_make c_k_Scheme_init_1 hr rfl (fa_cons (fe_var (i := 7) rfl (by first | exact Or.inl rfl | exact Or.inr (Or.inl rfl) | exact Or.inr (Or.inr rfl))) fa_nil)) (fe_make c_k_Scheme_init_2 hr rfl (fa_cons (fe_var (i := 7) rfl (by first | exact Or.inl rfl | exact Or.inr (Or.inl rfl) | exact Or.inr (Or.inr rfl))) (fa_cons (fe_lst fa_nil) fa_nil)))))))) (fss_one (fs_ret fe_bl)) fss_nil)))))))))))))))))
  (fss_one (fs_ret fe_bl))))
end
end KL

end sec_Ders
section sec_Asm
set_option maxRecDepth 100000
set_option maxHeartbeats 4000000
/-! printed by gen_asm.py: what the top has written, put together -/
namespace KL
open PySem L2 FD
theorem kb_list : ∀ T ∈ ["NoneType", "bool", "int", "str", "tuple", "list", "dict"], kitB T "list" = some (bt_list T) := by decide +kernel
theorem kb_tuple : ∀ T ∈ ["NoneType", "bool", "int", "str", "tuple", "list", "dict"], kitB T "tuple" = some (bt_tuple T) := by decide +kernel
theorem kb_str : ∀ T ∈ ["NoneType", "bool", "int", "str", "tuple", "list", "dict"], kitB T "str" = some (bt_str T) := by decide +kernel
theorem kb_ValueError : ∀ T ∈ ["NoneType", "bool", "int", "str", "tuple", "list", "dict"], kitB T "ValueError" = some (bt_ValueError T) := by decide +kernel
theorem asm {l : PySem.W.OpenLaw} {w : World} {K : PySem.W.Frag} {h : Heap} {mg : Str → Option Value} {fa : Addr} (X : K.In h) (G0 : h.Ns mainGlobals mg) (hfa : mg "law" = some (.ref fa))
    {C_Scheme : Addr} {C_MeanError : Addr} {C_BadColumns : Addr} {C_BadDependence : Addr} {C_TooMany : Addr} {nm_BadColumns qn_BadColumns : Str} {N_BadColumns : Addr} {bs_BadColumns bm_BadColumns : List Value} {sn_BadColumns : List Str} {su_BadColumns : List Value} {ab_BadColumns : Bool} {co_BadColumns : Option Bool} {dd_BadColumns : Option Addr} {k0_BadColumns k1_BadColumns k2_BadColumns k3_BadColumns k5_BadColumns : Option Value} {f_BadColumns_init : Addr} {od_BadColumns_init an_BadColumns_init : Option Addr} {sl_BadColumns_init : Array (Option Value)} {oc_BadColumns_init kV_BadColumns_init dc_BadColumns_init pm_BadColumns_init ct_BadColumns_init cd_BadColumns_init : Value} {nm_BadDependence qn_BadDependence : Str} {N_BadDependence : Addr} {bs_BadDependence bm_BadDependence : List Value} {sn_BadDependence : List Str} {su_BadDependence : List Value} {ab_BadDependence : Bool} {co_BadDependence : Option Bool} {dd_BadDependence : Option Addr} {k0_BadDependence k1_BadDependence k2_BadDependence k3_BadDependence k5_BadDependence : Option Value} {f_BadDependence_init : Addr} {od_BadDependence_init an_BadDependence_init : Option Addr} {sl_BadDependence_init : Array (Option Value)} {oc_BadDependence_init kV_BadDependence_init dc_BadDependence_init pm_BadDependence_init ct_BadDependence_init cd_BadDependence_init : Value} {t_ALL_COLUMNS : Tok} {t_MOST_DEPENDENCES : Tok} {t_ROW : Tok} {f_law_begun : Addr} {od_law_begun an_law_begun : Option Addr} {sl_law_begun : Array (Option Value)} {oc_law_begun kV_law_begun dc_law_begun pm_law_begun ct_law_begun : Value} {cd_law_begun : Value} {f_rises : Addr} {od_rises an_rises : Option Addr} {sl_rises : Array (Option Value)} {oc_rises kV_rises dc_rises pm_rises ct_rises : Value} {cd_rises : Value} {f_is_set : Addr} {od_is_set an_is_set : Option Addr} {sl_is_set : Array (Option Value)} {oc_is_set kV_is_set dc_is_set pm_is_set ct_is_set : Value} {cd_is_set : Value} {f_is_dependence : Addr} {od_is_dependence an_is_dependence : Option Addr} {sl_is_dependence : Array (Option Value)} {oc_is_dependence kV_is_dependence dc_is_dependence pm_is_dependence ct_is_dependence : Value} {cd_is_dependence : Value} {f_need_dependences : Addr} {od_need_dependences an_need_dependences : Option Addr} {sl_need_dependences : Array (Option Value)} {oc_need_dependences kV_need_dependences dc_need_dependences pm_need_dependences ct_need_dependences : Value} {cd_need_dependences : Value} {f_is_columns : Addr} {od_is_columns an_is_columns : Option Addr} {sl_is_columns : Array (Option Value)} {oc_is_columns kV_is_columns dc_is_columns pm_is_columns ct_is_columns : Value} {cd_is_columns : Value} {f_need_columns : Addr} {od_need_columns an_need_columns : Option Addr} {sl_need_columns : Array (Option Value)} {oc_need_columns kV_need_columns dc_need_columns pm_need_columns ct_need_columns : Value} {cd_need_columns : Value} {f_Scheme_init : Addr} {od_Scheme_init an_Scheme_init : Option Addr} {sl_Scheme_init : Array (Option Value)} {oc_Scheme_init kV_Scheme_init dc_Scheme_init pm_Scheme_init ct_Scheme_init : Value} {cd_Scheme_init : Value} {T_Scheme_init : Addr} {oT_Scheme_init : PySem.Obj} {nT_Scheme_init : Nat} {E0_Scheme_init : Addr} {oE0_Scheme_init : PySem.Obj} {nE0_Scheme_init : Nat} {f_sets_of : Addr} {od_sets_of an_sets_of : Option Addr} {sl_sets_of : Array (Option Value)} {oc_sets_of kV_sets_of dc_sets_of pm_sets_of ct_sets_of : Value} {f_within : Addr} {od_within an_within : Option Addr} {sl_within : Array (Option Value)} {oc_within kV_within dc_within pm_within ct_within : Value} {cd_within : Value} {f_joined : Addr} {od_joined an_joined : Option Addr} {sl_joined : Array (Option Value)} {oc_joined kV_joined dc_joined pm_joined ct_joined : Value} {cd_joined : Value} {f_closure_of : Addr} {od_closure_of an_closure_of : Option Addr} {sl_closure_of : Array (Option Value)} {oc_closure_of kV_closure_of dc_closure_of pm_closure_of ct_closure_of : Value} {cd_closure_of : Value} {f_need_set : Addr} {od_need_set an_need_set : Option Addr} {sl_need_set : Array (Option Value)} {oc_need_set kV_need_set dc_need_set pm_need_set ct_need_set : Value} {cd_need_set : Value} {f_Scheme_closure : Addr} {od_Scheme_closure an_Scheme_closure : Option Addr} {sl_Scheme_closure : Array (Option Value)} {oc_Scheme_closure kV_Scheme_closure dc_Scheme_closure pm_Scheme_closure ct_Scheme_closure : Value} {cd_Scheme_closure : Value} {f_Scheme_closed_sets : Addr} {od_Scheme_closed_sets an_Scheme_closed_sets : Option Addr} {sl_Scheme_closed_sets : Array (Option Value)} {oc_Scheme_closed_sets kV_Scheme_closed_sets dc_Scheme_closed_sets pm_Scheme_closed_sets ct_Scheme_closed_sets : Value} {cd_Scheme_closed_sets : Value} {f_Scheme_eq : Addr} {od_Scheme_eq an_Scheme_eq : Option Addr} {sl_Scheme_eq : Array (Option Value)} {oc_Scheme_eq kV_Scheme_eq dc_Scheme_eq pm_Scheme_eq ct_Scheme_eq : Value} {cd_Scheme_eq : Value} {f_Scheme_dependences : Addr} {od_Scheme_dependences an_Scheme_dependences : Option Addr} {sl_Scheme_dependences : Array (Option Value)} {oc_Scheme_dependences kV_Scheme_dependences dc_Scheme_dependences pm_Scheme_dependences ct_Scheme_dependences : Value} {cd_Scheme_dependences : Value} {p_Scheme_dependences : Addr} {rs_Scheme_dependences : List Value} {f_Scheme_columns : Addr} {od_Scheme_columns an_Scheme_columns : Option Addr} {sl_Scheme_columns : Array (Option Value)} {oc_Scheme_columns kV_Scheme_columns dc_Scheme_columns pm_Scheme_columns ct_Scheme_columns : Value} {cd_Scheme_columns : Value} {p_Scheme_columns : Addr} {rs_Scheme_columns : List Value} {f_law_told : Addr} {od_law_told an_law_told : Option Addr} {sl_law_told : Array (Option Value)} {oc_law_told kV_law_told dc_law_told pm_law_told ct_law_told : Value} {cd_law_told : Value} {f_law_is_rising : Addr} {od_law_is_rising an_law_is_rising : Option Addr} {sl_law_is_rising : Array (Option Value)} {oc_law_is_rising kV_law_is_rising dc_law_is_rising pm_law_is_rising ct_law_is_rising : Value} {cd_law_is_rising : Value} {f_law_is_tie : Addr} {od_law_is_tie an_law_is_tie : Option Addr} {sl_law_is_tie : Array (Option Value)} {oc_law_is_tie kV_law_is_tie dc_law_is_tie pm_law_is_tie ct_law_is_tie : Value} {cd_law_is_tie : Value} {f_law_due : Addr} {od_law_due an_law_due : Option Addr} {sl_law_due : Array (Option Value)} {oc_law_due kV_law_due dc_law_due pm_law_due ct_law_due : Value} {cd_law_due : Value} {f_law_mixed : Addr} {od_law_mixed an_law_mixed : Option Addr} {sl_law_mixed : Array (Option Value)} {oc_law_mixed kV_law_mixed dc_law_mixed pm_law_mixed ct_law_mixed : Value} {cd_law_mixed : Value} {f_law_take : Addr} {od_law_take an_law_take : Option Addr} {sl_law_take : Array (Option Value)} {oc_law_take kV_law_take dc_law_take pm_law_take ct_law_take : Value} {cd_law_take : Value} {f_law_pick : Addr} {od_law_pick an_law_pick : Option Addr} {sl_law_pick : Array (Option Value)} {oc_law_pick kV_law_pick dc_law_pick pm_law_pick ct_law_pick : Value} {cd_law_pick : Value} {f_law_odd : Addr} {od_law_odd an_law_odd : Option Addr} {sl_law_odd : Array (Option Value)} {oc_law_odd kV_law_odd dc_law_odd pm_law_odd ct_law_odd : Value} {cd_law_odd : Value} {f_law_bent : Addr} {od_law_bent an_law_bent : Option Addr} {sl_law_bent : Array (Option Value)} {oc_law_bent kV_law_bent dc_law_bent pm_law_bent ct_law_bent : Value} {cd_law_bent : Value} {f_law_letters : Addr} {od_law_letters an_law_letters : Option Addr} {sl_law_letters : Array (Option Value)} {oc_law_letters kV_law_letters dc_law_letters pm_law_letters ct_law_letters : Value} {cd_law_letters : Value} {f_law_columns : Addr} {od_law_columns an_law_columns : Option Addr} {sl_law_columns : Array (Option Value)} {oc_law_columns kV_law_columns dc_law_columns pm_law_columns ct_law_columns : Value} {cd_law_columns : Value} {f_law_drawn : Addr} {od_law_drawn an_law_drawn : Option Addr} {sl_law_drawn : Array (Option Value)} {oc_law_drawn kV_law_drawn dc_law_drawn pm_law_drawn ct_law_drawn : Value} {cd_law_drawn : Value} {f_law : Addr} {od_law an_law : Option Addr} {sl_law : Array (Option Value)} {oc_law kV_law dc_law pm_law ct_law : Value} {cd_law : Value} {Ts : List Addr} {ca_sets_of pa_sets_of : Addr}
    (aC_Scheme : PySem.W.nsIn K mainGlobals "Scheme" = some (some (.ref C_Scheme)))
    (aC_MeanError : PySem.W.nsIn K mainGlobals "MeanError" = some (some (.ref C_MeanError)))
    (aC_BadColumns : PySem.W.nsIn K mainGlobals "BadColumns" = some (some (.ref C_BadColumns)))
    (aC_BadDependence : PySem.W.nsIn K mainGlobals "BadDependence" = some (some (.ref C_BadDependence)))
    (aC_TooMany : PySem.W.nsIn K mainGlobals "TooMany" = some (some (.ref C_TooMany)))
    (lk_BadColumns : K.lookup C_BadColumns = some (excClassObj nm_BadColumns qn_BadColumns C_BadColumns N_BadColumns bs_BadColumns bm_BadColumns true sn_BadColumns su_BadColumns ab_BadColumns co_BadColumns dd_BadColumns k0_BadColumns k1_BadColumns k2_BadColumns k3_BadColumns k5_BadColumns "ValueError.__new__"))
    (ki_rv_BadColumns : PySem.HandSPX.refsVE bm_BadColumns = true)
    (xsa_BadColumns : PySem.W.findIn K (.ref C_BadColumns) "__setattr__" = some (some (.builtin "object.__setattr__")))
    (xex_BadColumns : PySem.W.subIn K (.ref C_BadColumns) (.type "BaseException") = some true)
    (xty_BadColumns : PySem.W.typeIn K (.ref C_BadColumns) = some (.type "type"))
    (xkc_BadColumns : PySem.W.keepIn K (.ref C_BadColumns) = true)
    (xga_BadColumns : PySem.W.findIn K (.ref C_BadColumns) "__getattribute__" = some (some (.builtin "BaseException.__getattribute__")))
    (xgt_BadColumns : PySem.W.findIn K (.ref C_BadColumns) "__getattr__" = some none)
    (xhd_BadColumns : PySem.W.hasDictIn K C_BadColumns = true)
    (xha_BadColumns : PySem.W.findIn K (.ref C_BadColumns) "__class__" = some (some (.builtin "object.__class__")))
    (xmr_BadColumns : PySem.W.mroIn K C_BadColumns (.type "object") = some true)
    (xno_BadColumns : PySem.W.findIn K (.ref C_BadColumns) "given" = some none)
    (a_BadColumns_init : PySem.W.findIn K (.ref C_BadColumns) "__init__" = some (some (.ref f_BadColumns_init)))
    (xti_BadColumns_init : PySem.W.typeIn K (.ref f_BadColumns_init) = some (.type "function"))
    (l_BadColumns_init : K.lookup f_BadColumns_init = some ⟨oc_BadColumns_init, od_BadColumns_init, .func (PySem.W.fnOf "__init__" "BadColumns.__init__" (defArgs s_BadColumns_init) (defBody s_BadColumns_init) (defScope s_BadColumns_init) .none kV_BadColumns_init dc_BadColumns_init pm_BadColumns_init an_BadColumns_init cd_BadColumns_init ct_BadColumns_init), sl_BadColumns_init⟩)
    (c_BadColumns_init : PySem.W.codeIn K cd_BadColumns_init "BadColumns.__init__" = true)
    (k_BadColumns_init : PySem.W.keepIn K (.ref f_BadColumns_init) = true)
    (lk_BadDependence : K.lookup C_BadDependence = some (excClassObj nm_BadDependence qn_BadDependence C_BadDependence N_BadDependence bs_BadDependence bm_BadDependence true sn_BadDependence su_BadDependence ab_BadDependence co_BadDependence dd_BadDependence k0_BadDependence k1_BadDependence k2_BadDependence k3_BadDependence k5_BadDependence "ValueError.__new__"))
    (ki_rv_BadDependence : PySem.HandSPX.refsVE bm_BadDependence = true)
    (xsa_BadDependence : PySem.W.findIn K (.ref C_BadDependence) "__setattr__" = some (some (.builtin "object.__setattr__")))
    (xex_BadDependence : PySem.W.subIn K (.ref C_BadDependence) (.type "BaseException") = some true)
    (xty_BadDependence : PySem.W.typeIn K (.ref C_BadDependence) = some (.type "type"))
    (xkc_BadDependence : PySem.W.keepIn K (.ref C_BadDependence) = true)
    (xga_BadDependence : PySem.W.findIn K (.ref C_BadDependence) "__getattribute__" = some (some (.builtin "BaseException.__getattribute__")))
    (xgt_BadDependence : PySem.W.findIn K (.ref C_BadDependence) "__getattr__" = some none)
    (xhd_BadDependence : PySem.W.hasDictIn K C_BadDependence = true)
    (xha_BadDependence : PySem.W.findIn K (.ref C_BadDependence) "__class__" = some (some (.builtin "object.__class__")))
    (xmr_BadDependence : PySem.W.mroIn K C_BadDependence (.type "object") = some true)
    (xno_BadDependence : PySem.W.findIn K (.ref C_BadDependence) "at" = some none)
    (a_BadDependence_init : PySem.W.findIn K (.ref C_BadDependence) "__init__" = some (some (.ref f_BadDependence_init)))
    (xti_BadDependence_init : PySem.W.typeIn K (.ref f_BadDependence_init) = some (.type "function"))
    (l_BadDependence_init : K.lookup f_BadDependence_init = some ⟨oc_BadDependence_init, od_BadDependence_init, .func (PySem.W.fnOf "__init__" "BadDependence.__init__" (defArgs s_BadDependence_init) (defBody s_BadDependence_init) (defScope s_BadDependence_init) .none kV_BadDependence_init dc_BadDependence_init pm_BadDependence_init an_BadDependence_init cd_BadDependence_init ct_BadDependence_init), sl_BadDependence_init⟩)
    (c_BadDependence_init : PySem.W.codeIn K cd_BadDependence_init "BadDependence.__init__" = true)
    (k_BadDependence_init : PySem.W.keepIn K (.ref f_BadDependence_init) = true)
    (kk_em_MeanError_BadColumns : PySem.W.exmOne K (.ref C_BadColumns) (.ref C_MeanError) = some true)
    (kk_em_MeanError_BadDependence : PySem.W.exmOne K (.ref C_BadDependence) (.ref C_MeanError) = some true)
    (kk_xi_BadColumns_BadColumns : PySem.W.kitOne K (.ref C_BadColumns) (.ref C_BadColumns) = some true)
    (kk_xi_BadColumns_BadDependence : PySem.W.kitOne K (.ref C_BadDependence) (.ref C_BadColumns) = some false)
    (kk_xi_BadDependence_BadColumns : PySem.W.kitOne K (.ref C_BadColumns) (.ref C_BadDependence) = some false)
    (kk_xi_BadDependence_BadDependence : PySem.W.kitOne K (.ref C_BadDependence) (.ref C_BadDependence) = some true)
    (kk_xi_TooMany_BadColumns : PySem.W.kitOne K (.ref C_BadColumns) (.ref C_TooMany) = some false)
    (kk_xi_TooMany_BadDependence : PySem.W.kitOne K (.ref C_BadDependence) (.ref C_TooMany) = some false)
    (kk_xi_ValueError_BadColumns : PySem.W.kitOne K (.ref C_BadColumns) (.type "ValueError") = some true)
    (kk_xi_ValueError_BadDependence : PySem.W.kitOne K (.ref C_BadDependence) (.type "ValueError") = some true)
    (pg_Scheme : PySem.W.plainGet K C_Scheme Str.empty = true)
    (hd_Scheme : PySem.W.hasDictIn K C_Scheme = true)
    (po_Scheme : PySem.W.plainOver K C_Scheme = true)
    (sa_Scheme : PySem.W.findIn K (.ref C_Scheme) "__setattr__" = some (some (.builtin "object.__setattr__")))
    (mk_Scheme : PySem.W.makesIn K C_Scheme = true)
    (kc_Scheme : PySem.W.keepIn K (.ref C_Scheme) = true)
    (ha_Scheme : PySem.W.findIn K (.ref C_Scheme) "__class__" = some (some (.builtin "object.__class__")))
    (mr_Scheme : PySem.W.mroIn K C_Scheme (.type "object") = some true)
    (na_Scheme_own_columns : PySem.W.findIn K (.ref C_Scheme) "own_columns" = some none)
    (na_Scheme_own_dependences : PySem.W.findIn K (.ref C_Scheme) "own_dependences" = some none)
    (ne_Scheme : PySem.W.findIn K (.ref C_Scheme) "__ne__" = some (some (.builtin "object.__ne__")))
    (so_Scheme : PySem.W.subIn K (.ref C_Scheme) (.type "object") = some true)
    (nf_Scheme_NoneType : PySem.W.notFirst K C_Scheme (.type "NoneType") = true)
    (nf_Scheme_bool : PySem.W.notFirst K C_Scheme (.type "bool") = true)
    (nf_Scheme_int : PySem.W.notFirst K C_Scheme (.type "int") = true)
    (nf_Scheme_str : PySem.W.notFirst K C_Scheme (.type "str") = true)
    (nf_Scheme_tuple : PySem.W.notFirst K C_Scheme (.type "tuple") = true)
    (nf_Scheme_list : PySem.W.notFirst K C_Scheme (.type "list") = true)
    (nf_Scheme_dict : PySem.W.notFirst K C_Scheme (.type "dict") = true)
    (nfi_Scheme_Scheme : PySem.W.notFirst K C_Scheme (.ref C_Scheme) = true)
    (hn0 : PySem.W.specialIn K (.builtin "object.__class__") "__get__" = some (some (.builtin "getset_descriptor.__get__")))
    (ht0 : PySem.W.takesIn K (.builtin "object.__class__") = some true)
    (kk_list_Scheme : PySem.W.kitOne K (.ref C_Scheme) (.type "list") = some false)
    (ki_Scheme_NoneType : PySem.W.kitOne K (.type "NoneType") (.ref C_Scheme) = some false)
    (ki_Scheme_bool : PySem.W.kitOne K (.type "bool") (.ref C_Scheme) = some false)
    (ki_Scheme_int : PySem.W.kitOne K (.type "int") (.ref C_Scheme) = some false)
    (ki_Scheme_str : PySem.W.kitOne K (.type "str") (.ref C_Scheme) = some false)
    (ki_Scheme_tuple : PySem.W.kitOne K (.type "tuple") (.ref C_Scheme) = some false)
    (ki_Scheme_list : PySem.W.kitOne K (.type "list") (.ref C_Scheme) = some false)
    (ki_Scheme_dict : PySem.W.kitOne K (.type "dict") (.ref C_Scheme) = some false)
    (kk_Scheme_Scheme : PySem.W.kitOne K (.ref C_Scheme) (.ref C_Scheme) = some true)
    (kk_list_tuple_Scheme : PySem.W.kitAny K (.ref C_Scheme) [.type "list", .type "tuple"] = some false)
    (kk_tuple_Scheme : PySem.W.kitOne K (.ref C_Scheme) (.type "tuple") = some false)
    (kk_str_Scheme : PySem.W.kitOne K (.ref C_Scheme) (.type "str") = some false)
    (ki_BadDependence_NoneType : PySem.W.kitOne K (.type "NoneType") (.ref C_BadDependence) = some false)
    (ki_BadDependence_bool : PySem.W.kitOne K (.type "bool") (.ref C_BadDependence) = some false)
    (ki_BadDependence_int : PySem.W.kitOne K (.type "int") (.ref C_BadDependence) = some false)
    (ki_BadDependence_str : PySem.W.kitOne K (.type "str") (.ref C_BadDependence) = some false)
    (ki_BadDependence_tuple : PySem.W.kitOne K (.type "tuple") (.ref C_BadDependence) = some false)
    (ki_BadDependence_list : PySem.W.kitOne K (.type "list") (.ref C_BadDependence) = some false)
    (ki_BadDependence_dict : PySem.W.kitOne K (.type "dict") (.ref C_BadDependence) = some false)
    (kk_BadDependence_Scheme : PySem.W.kitOne K (.ref C_Scheme) (.ref C_BadDependence) = some false)
    (ki_BadColumns_NoneType : PySem.W.kitOne K (.type "NoneType") (.ref C_BadColumns) = some false)
    (ki_BadColumns_bool : PySem.W.kitOne K (.type "bool") (.ref C_BadColumns) = some false)
    (ki_BadColumns_int : PySem.W.kitOne K (.type "int") (.ref C_BadColumns) = some false)
    (ki_BadColumns_str : PySem.W.kitOne K (.type "str") (.ref C_BadColumns) = some false)
    (ki_BadColumns_tuple : PySem.W.kitOne K (.type "tuple") (.ref C_BadColumns) = some false)
    (ki_BadColumns_list : PySem.W.kitOne K (.type "list") (.ref C_BadColumns) = some false)
    (ki_BadColumns_dict : PySem.W.kitOne K (.type "dict") (.ref C_BadColumns) = some false)
    (kk_BadColumns_Scheme : PySem.W.kitOne K (.ref C_Scheme) (.ref C_BadColumns) = some false)
    (kk_ValueError_Scheme : PySem.W.kitOne K (.ref C_Scheme) (.type "ValueError") = some false)
    (ki_TooMany_NoneType : PySem.W.kitOne K (.type "NoneType") (.ref C_TooMany) = some false)
    (ki_TooMany_bool : PySem.W.kitOne K (.type "bool") (.ref C_TooMany) = some false)
    (ki_TooMany_int : PySem.W.kitOne K (.type "int") (.ref C_TooMany) = some false)
    (ki_TooMany_str : PySem.W.kitOne K (.type "str") (.ref C_TooMany) = some false)
    (ki_TooMany_tuple : PySem.W.kitOne K (.type "tuple") (.ref C_TooMany) = some false)
    (ki_TooMany_list : PySem.W.kitOne K (.type "list") (.ref C_TooMany) = some false)
    (ki_TooMany_dict : PySem.W.kitOne K (.type "dict") (.ref C_TooMany) = some false)
    (kk_TooMany_Scheme : PySem.W.kitOne K (.ref C_Scheme) (.ref C_TooMany) = some false)
    (z_ValueError : PySem.W.nsIn K mainGlobals "ValueError" = some none)
    (z_abs : PySem.W.nsIn K mainGlobals "abs" = some none)
    (z_all : PySem.W.nsIn K mainGlobals "all" = some none)
    (z_enumerate : PySem.W.nsIn K mainGlobals "enumerate" = some none)
    (z_int : PySem.W.nsIn K mainGlobals "int" = some none)
    (z_isinstance : PySem.W.nsIn K mainGlobals "isinstance" = some none)
    (z_len : PySem.W.nsIn K mainGlobals "len" = some none)
    (z_list : PySem.W.nsIn K mainGlobals "list" = some none)
    (z_min : PySem.W.nsIn K mainGlobals "min" = some none)
    (z_range : PySem.W.nsIn K mainGlobals "range" = some none)
    (z_repr : PySem.W.nsIn K mainGlobals "repr" = some none)
    (z_set : PySem.W.nsIn K mainGlobals "set" = some none)
    (z_sorted : PySem.W.nsIn K mainGlobals "sorted" = some none)
    (z_str : PySem.W.nsIn K mainGlobals "str" = some none)
    (z_tuple : PySem.W.nsIn K mainGlobals "tuple" = some none)
    (g_ALL_COLUMNS : PySem.W.nsIn K mainGlobals "ALL_COLUMNS" = some (some (.str "abcd" t_ALL_COLUMNS)))
    (g_MOST_DEPENDENCES : PySem.W.nsIn K mainGlobals "MOST_DEPENDENCES" = some (some (.int 20 t_MOST_DEPENDENCES)))
    (g_ROW : PySem.W.nsIn K mainGlobals "ROW" = some (some (.str "r" t_ROW)))
    (a_law_begun : PySem.W.nsIn K mainGlobals "_law_begun" = some (some (.ref f_law_begun)))
    (l_law_begun : K.lookup f_law_begun = some ⟨oc_law_begun, od_law_begun, .func (PySem.W.fnOf "_law_begun" "_law_begun" (defArgs s_law_begun) (defBody s_law_begun) (defScope s_law_begun) .none kV_law_begun dc_law_begun pm_law_begun an_law_begun cd_law_begun ct_law_begun), sl_law_begun⟩)
    (c_law_begun : PySem.W.codeIn K cd_law_begun "_law_begun" = true)
    (k_law_begun : PySem.W.keepIn K (.ref f_law_begun) = true)
    (a_rises : PySem.W.nsIn K mainGlobals "rises" = some (some (.ref f_rises)))
    (l_rises : K.lookup f_rises = some ⟨oc_rises, od_rises, .func (PySem.W.fnOf "rises" "rises" (defArgs s_rises) (defBody s_rises) (defScope s_rises) .none kV_rises dc_rises pm_rises an_rises cd_rises ct_rises), sl_rises⟩)
    (c_rises : PySem.W.codeIn K cd_rises "rises" = true)
    (k_rises : PySem.W.keepIn K (.ref f_rises) = true)
    (a_is_set : PySem.W.nsIn K mainGlobals "is_set" = some (some (.ref f_is_set)))
    (l_is_set : K.lookup f_is_set = some ⟨oc_is_set, od_is_set, .func (PySem.W.fnOf "is_set" "is_set" (defArgs s_is_set) (defBody s_is_set) (defScope s_is_set) .none kV_is_set dc_is_set pm_is_set an_is_set cd_is_set ct_is_set), sl_is_set⟩)
    (c_is_set : PySem.W.codeIn K cd_is_set "is_set" = true)
    (k_is_set : PySem.W.keepIn K (.ref f_is_set) = true)
    (a_is_dependence : PySem.W.nsIn K mainGlobals "is_dependence" = some (some (.ref f_is_dependence)))
    (l_is_dependence : K.lookup f_is_dependence = some ⟨oc_is_dependence, od_is_dependence, .func (PySem.W.fnOf "is_dependence" "is_dependence" (defArgs s_is_dependence) (defBody s_is_dependence) (defScope s_is_dependence) .none kV_is_dependence dc_is_dependence pm_is_dependence an_is_dependence cd_is_dependence ct_is_dependence), sl_is_dependence⟩)
    (c_is_dependence : PySem.W.codeIn K cd_is_dependence "is_dependence" = true)
    (k_is_dependence : PySem.W.keepIn K (.ref f_is_dependence) = true)
    (a_need_dependences : PySem.W.nsIn K mainGlobals "need_dependences" = some (some (.ref f_need_dependences)))
    (l_need_dependences : K.lookup f_need_dependences = some ⟨oc_need_dependences, od_need_dependences, .func (PySem.W.fnOf "need_dependences" "need_dependences" (defArgs s_need_dependences) (defBody s_need_dependences) (defScope s_need_dependences) .none kV_need_dependences dc_need_dependences pm_need_dependences an_need_dependences cd_need_dependences ct_need_dependences), sl_need_dependences⟩)
    (c_need_dependences : PySem.W.codeIn K cd_need_dependences "need_dependences" = true)
    (k_need_dependences : PySem.W.keepIn K (.ref f_need_dependences) = true)
    (a_is_columns : PySem.W.nsIn K mainGlobals "is_columns" = some (some (.ref f_is_columns)))
    (l_is_columns : K.lookup f_is_columns = some ⟨oc_is_columns, od_is_columns, .func (PySem.W.fnOf "is_columns" "is_columns" (defArgs s_is_columns) (defBody s_is_columns) (defScope s_is_columns) .none kV_is_columns dc_is_columns pm_is_columns an_is_columns cd_is_columns ct_is_columns), sl_is_columns⟩)
    (c_is_columns : PySem.W.codeIn K cd_is_columns "is_columns" = true)
    (k_is_columns : PySem.W.keepIn K (.ref f_is_columns) = true)
    (a_need_columns : PySem.W.nsIn K mainGlobals "need_columns" = some (some (.ref f_need_columns)))
    (l_need_columns : K.lookup f_need_columns = some ⟨oc_need_columns, od_need_columns, .func (PySem.W.fnOf "need_columns" "need_columns" (defArgs s_need_columns) (defBody s_need_columns) (defScope s_need_columns) .none kV_need_columns dc_need_columns pm_need_columns an_need_columns cd_need_columns ct_need_columns), sl_need_columns⟩)
    (c_need_columns : PySem.W.codeIn K cd_need_columns "need_columns" = true)
    (k_need_columns : PySem.W.keepIn K (.ref f_need_columns) = true)
    (a_Scheme_init : PySem.W.findIn K (.ref C_Scheme) "__init__" = some (some (.ref f_Scheme_init)))
    (i_Scheme_init : PySem.W.isFn K (.ref f_Scheme_init) = true)
    (l_Scheme_init : K.lookup f_Scheme_init = some ⟨oc_Scheme_init, od_Scheme_init, .func (PySem.W.fnOf "__init__" "Scheme.__init__" (defArgs s_Scheme_init) (defBody s_Scheme_init) (defScope s_Scheme_init) (.ref T_Scheme_init) kV_Scheme_init dc_Scheme_init pm_Scheme_init an_Scheme_init cd_Scheme_init ct_Scheme_init), sl_Scheme_init⟩)
    (c_Scheme_init : PySem.W.codeIn K cd_Scheme_init "Scheme.__init__" = true)
    (k_Scheme_init : PySem.W.keepIn K (.ref f_Scheme_init) = true)
    (lT_Scheme_init : K.lookup T_Scheme_init = some oT_Scheme_init)
    (dT_Scheme_init : oT_Scheme_init.data = .seq #[.ref E0_Scheme_init] nT_Scheme_init)
    (lKE0_Scheme_init : K.lookup E0_Scheme_init = some oE0_Scheme_init)
    (cKE0_Scheme_init : oE0_Scheme_init.cls = .type "tuple")
    (dKE0_Scheme_init : oE0_Scheme_init.data = .seq #[] nE0_Scheme_init)
    (a_sets_of : PySem.W.nsIn K mainGlobals "sets_of" = some (some (.ref f_sets_of)))
    (l_sets_of : K.lookup f_sets_of = some ⟨oc_sets_of, od_sets_of, .func (PySem.W.fnOf "sets_of" "sets_of" (defArgs s_sets_of) (defBody s_sets_of) (defScope s_sets_of) .none kV_sets_of dc_sets_of pm_sets_of an_sets_of (.ref ca_sets_of) ct_sets_of), sl_sets_of⟩)
    (c_sets_of : PySem.W.codeIn K (.ref ca_sets_of) "sets_of" = true)
    (k_sets_of : PySem.W.keepIn K (.ref f_sets_of) = true)
    (a_within : PySem.W.nsIn K mainGlobals "within" = some (some (.ref f_within)))
    (l_within : K.lookup f_within = some ⟨oc_within, od_within, .func (PySem.W.fnOf "within" "within" (defArgs s_within) (defBody s_within) (defScope s_within) .none kV_within dc_within pm_within an_within cd_within ct_within), sl_within⟩)
    (c_within : PySem.W.codeIn K cd_within "within" = true)
    (k_within : PySem.W.keepIn K (.ref f_within) = true)
    (a_joined : PySem.W.nsIn K mainGlobals "joined" = some (some (.ref f_joined)))
    (l_joined : K.lookup f_joined = some ⟨oc_joined, od_joined, .func (PySem.W.fnOf "joined" "joined" (defArgs s_joined) (defBody s_joined) (defScope s_joined) .none kV_joined dc_joined pm_joined an_joined cd_joined ct_joined), sl_joined⟩)
    (c_joined : PySem.W.codeIn K cd_joined "joined" = true)
    (k_joined : PySem.W.keepIn K (.ref f_joined) = true)
    (a_closure_of : PySem.W.nsIn K mainGlobals "closure_of" = some (some (.ref f_closure_of)))
    (l_closure_of : K.lookup f_closure_of = some ⟨oc_closure_of, od_closure_of, .func (PySem.W.fnOf "closure_of" "closure_of" (defArgs s_closure_of) (defBody s_closure_of) (defScope s_closure_of) .none kV_closure_of dc_closure_of pm_closure_of an_closure_of cd_closure_of ct_closure_of), sl_closure_of⟩)
    (c_closure_of : PySem.W.codeIn K cd_closure_of "closure_of" = true)
    (k_closure_of : PySem.W.keepIn K (.ref f_closure_of) = true)
    (a_need_set : PySem.W.nsIn K mainGlobals "need_set" = some (some (.ref f_need_set)))
    (l_need_set : K.lookup f_need_set = some ⟨oc_need_set, od_need_set, .func (PySem.W.fnOf "need_set" "need_set" (defArgs s_need_set) (defBody s_need_set) (defScope s_need_set) .none kV_need_set dc_need_set pm_need_set an_need_set cd_need_set ct_need_set), sl_need_set⟩)
    (c_need_set : PySem.W.codeIn K cd_need_set "need_set" = true)
    (k_need_set : PySem.W.keepIn K (.ref f_need_set) = true)
    (a_Scheme_closure : PySem.W.findIn K (.ref C_Scheme) "closure" = some (some (.ref f_Scheme_closure)))
    (i_Scheme_closure : PySem.W.isFn K (.ref f_Scheme_closure) = true)
    (l_Scheme_closure : K.lookup f_Scheme_closure = some ⟨oc_Scheme_closure, od_Scheme_closure, .func (PySem.W.fnOf "closure" "Scheme.closure" (defArgs s_Scheme_closure) (defBody s_Scheme_closure) (defScope s_Scheme_closure) .none kV_Scheme_closure dc_Scheme_closure pm_Scheme_closure an_Scheme_closure cd_Scheme_closure ct_Scheme_closure), sl_Scheme_closure⟩)
    (c_Scheme_closure : PySem.W.codeIn K cd_Scheme_closure "Scheme.closure" = true)
    (k_Scheme_closure : PySem.W.keepIn K (.ref f_Scheme_closure) = true)
    (a_Scheme_closed_sets : PySem.W.findIn K (.ref C_Scheme) "closed_sets" = some (some (.ref f_Scheme_closed_sets)))
    (i_Scheme_closed_sets : PySem.W.isFn K (.ref f_Scheme_closed_sets) = true)
    (l_Scheme_closed_sets : K.lookup f_Scheme_closed_sets = some ⟨oc_Scheme_closed_sets, od_Scheme_closed_sets, .func (PySem.W.fnOf "closed_sets" "Scheme.closed_sets" (defArgs s_Scheme_closed_sets) (defBody s_Scheme_closed_sets) (defScope s_Scheme_closed_sets) .none kV_Scheme_closed_sets dc_Scheme_closed_sets pm_Scheme_closed_sets an_Scheme_closed_sets cd_Scheme_closed_sets ct_Scheme_closed_sets), sl_Scheme_closed_sets⟩)
    (c_Scheme_closed_sets : PySem.W.codeIn K cd_Scheme_closed_sets "Scheme.closed_sets" = true)
    (k_Scheme_closed_sets : PySem.W.keepIn K (.ref f_Scheme_closed_sets) = true)
    (a_Scheme_eq : PySem.W.findIn K (.ref C_Scheme) "__eq__" = some (some (.ref f_Scheme_eq)))
    (i_Scheme_eq : PySem.W.isFn K (.ref f_Scheme_eq) = true)
    (l_Scheme_eq : K.lookup f_Scheme_eq = some ⟨oc_Scheme_eq, od_Scheme_eq, .func (PySem.W.fnOf "__eq__" "Scheme.__eq__" (defArgs s_Scheme_eq) (defBody s_Scheme_eq) (defScope s_Scheme_eq) .none kV_Scheme_eq dc_Scheme_eq pm_Scheme_eq an_Scheme_eq cd_Scheme_eq ct_Scheme_eq), sl_Scheme_eq⟩)
    (c_Scheme_eq : PySem.W.codeIn K cd_Scheme_eq "Scheme.__eq__" = true)
    (k_Scheme_eq : PySem.W.keepIn K (.ref f_Scheme_eq) = true)
    (a_Scheme_dependences : PySem.W.findIn K (.ref C_Scheme) "dependences" = some (some (.ref p_Scheme_dependences)))
    (pg_Scheme_dependences : PySem.W.specialIn K (.ref p_Scheme_dependences) "__get__" = some (some (.builtin "property.__get__")))
    (pt_Scheme_dependences : PySem.W.takesIn K (.ref p_Scheme_dependences) = some true)
    (pr_Scheme_dependences : PySem.W.recIn K p_Scheme_dependences "property" = some (.ref f_Scheme_dependences :: rs_Scheme_dependences))
    (l_Scheme_dependences : K.lookup f_Scheme_dependences = some ⟨oc_Scheme_dependences, od_Scheme_dependences, .func (PySem.W.fnOf "dependences" "Scheme.dependences" (defArgs s_Scheme_dependences) (defBody s_Scheme_dependences) (defScope s_Scheme_dependences) .none kV_Scheme_dependences dc_Scheme_dependences pm_Scheme_dependences an_Scheme_dependences cd_Scheme_dependences ct_Scheme_dependences), sl_Scheme_dependences⟩)
    (c_Scheme_dependences : PySem.W.codeIn K cd_Scheme_dependences "Scheme.dependences" = true)
    (k_Scheme_dependences : PySem.W.keepIn K (.ref f_Scheme_dependences) = true)
    (a_Scheme_columns : PySem.W.findIn K (.ref C_Scheme) "columns" = some (some (.ref p_Scheme_columns)))
    (pg_Scheme_columns : PySem.W.specialIn K (.ref p_Scheme_columns) "__get__" = some (some (.builtin "property.__get__")))
    (pt_Scheme_columns : PySem.W.takesIn K (.ref p_Scheme_columns) = some true)
    (pr_Scheme_columns : PySem.W.recIn K p_Scheme_columns "property" = some (.ref f_Scheme_columns :: rs_Scheme_columns))
    (l_Scheme_columns : K.lookup f_Scheme_columns = some ⟨oc_Scheme_columns, od_Scheme_columns, .func (PySem.W.fnOf "columns" "Scheme.columns" (defArgs s_Scheme_columns) (defBody s_Scheme_columns) (defScope s_Scheme_columns) .none kV_Scheme_columns dc_Scheme_columns pm_Scheme_columns an_Scheme_columns cd_Scheme_columns ct_Scheme_columns), sl_Scheme_columns⟩)
    (c_Scheme_columns : PySem.W.codeIn K cd_Scheme_columns "Scheme.columns" = true)
    (k_Scheme_columns : PySem.W.keepIn K (.ref f_Scheme_columns) = true)
    (a_law_told : PySem.W.nsIn K mainGlobals "_law_told" = some (some (.ref f_law_told)))
    (l_law_told : K.lookup f_law_told = some ⟨oc_law_told, od_law_told, .func (PySem.W.fnOf "_law_told" "_law_told" (defArgs s_law_told) (defBody s_law_told) (defScope s_law_told) .none kV_law_told dc_law_told pm_law_told an_law_told cd_law_told ct_law_told), sl_law_told⟩)
    (c_law_told : PySem.W.codeIn K cd_law_told "_law_told" = true)
    (k_law_told : PySem.W.keepIn K (.ref f_law_told) = true)
    (a_law_is_rising : PySem.W.nsIn K mainGlobals "_law_is_rising" = some (some (.ref f_law_is_rising)))
    (l_law_is_rising : K.lookup f_law_is_rising = some ⟨oc_law_is_rising, od_law_is_rising, .func (PySem.W.fnOf "_law_is_rising" "_law_is_rising" (defArgs s_law_is_rising) (defBody s_law_is_rising) (defScope s_law_is_rising) .none kV_law_is_rising dc_law_is_rising pm_law_is_rising an_law_is_rising cd_law_is_rising ct_law_is_rising), sl_law_is_rising⟩)
    (c_law_is_rising : PySem.W.codeIn K cd_law_is_rising "_law_is_rising" = true)
    (k_law_is_rising : PySem.W.keepIn K (.ref f_law_is_rising) = true)
    (a_law_is_tie : PySem.W.nsIn K mainGlobals "_law_is_tie" = some (some (.ref f_law_is_tie)))
    (l_law_is_tie : K.lookup f_law_is_tie = some ⟨oc_law_is_tie, od_law_is_tie, .func (PySem.W.fnOf "_law_is_tie" "_law_is_tie" (defArgs s_law_is_tie) (defBody s_law_is_tie) (defScope s_law_is_tie) .none kV_law_is_tie dc_law_is_tie pm_law_is_tie an_law_is_tie cd_law_is_tie ct_law_is_tie), sl_law_is_tie⟩)
    (c_law_is_tie : PySem.W.codeIn K cd_law_is_tie "_law_is_tie" = true)
    (k_law_is_tie : PySem.W.keepIn K (.ref f_law_is_tie) = true)
    (a_law_due : PySem.W.nsIn K mainGlobals "_law_due" = some (some (.ref f_law_due)))
    (l_law_due : K.lookup f_law_due = some ⟨oc_law_due, od_law_due, .func (PySem.W.fnOf "_law_due" "_law_due" (defArgs s_law_due) (defBody s_law_due) (defScope s_law_due) .none kV_law_due dc_law_due pm_law_due an_law_due cd_law_due ct_law_due), sl_law_due⟩)
    (c_law_due : PySem.W.codeIn K cd_law_due "_law_due" = true)
    (k_law_due : PySem.W.keepIn K (.ref f_law_due) = true)
    (a_law_mixed : PySem.W.nsIn K mainGlobals "_law_mixed" = some (some (.ref f_law_mixed)))
    (l_law_mixed : K.lookup f_law_mixed = some ⟨oc_law_mixed, od_law_mixed, .func (PySem.W.fnOf "_law_mixed" "_law_mixed" (defArgs s_law_mixed) (defBody s_law_mixed) (defScope s_law_mixed) .none kV_law_mixed dc_law_mixed pm_law_mixed an_law_mixed cd_law_mixed ct_law_mixed), sl_law_mixed⟩)
    (c_law_mixed : PySem.W.codeIn K cd_law_mixed "_law_mixed" = true)
    (k_law_mixed : PySem.W.keepIn K (.ref f_law_mixed) = true)
    (a_law_take : PySem.W.nsIn K mainGlobals "_law_take" = some (some (.ref f_law_take)))
    (l_law_take : K.lookup f_law_take = some ⟨oc_law_take, od_law_take, .func (PySem.W.fnOf "_law_take" "_law_take" (defArgs s_law_take) (defBody s_law_take) (defScope s_law_take) .none kV_law_take dc_law_take pm_law_take an_law_take cd_law_take ct_law_take), sl_law_take⟩)
    (c_law_take : PySem.W.codeIn K cd_law_take "_law_take" = true)
    (k_law_take : PySem.W.keepIn K (.ref f_law_take) = true)
    (a_law_pick : PySem.W.nsIn K mainGlobals "_law_pick" = some (some (.ref f_law_pick)))
    (l_law_pick : K.lookup f_law_pick = some ⟨oc_law_pick, od_law_pick, .func (PySem.W.fnOf "_law_pick" "_law_pick" (defArgs s_law_pick) (defBody s_law_pick) (defScope s_law_pick) .none kV_law_pick dc_law_pick pm_law_pick an_law_pick cd_law_pick ct_law_pick), sl_law_pick⟩)
    (c_law_pick : PySem.W.codeIn K cd_law_pick "_law_pick" = true)
    (k_law_pick : PySem.W.keepIn K (.ref f_law_pick) = true)
    (a_law_odd : PySem.W.nsIn K mainGlobals "_law_odd" = some (some (.ref f_law_odd)))
    (l_law_odd : K.lookup f_law_odd = some ⟨oc_law_odd, od_law_odd, .func (PySem.W.fnOf "_law_odd" "_law_odd" (defArgs s_law_odd) (defBody s_law_odd) (defScope s_law_odd) .none kV_law_odd dc_law_odd pm_law_odd an_law_odd cd_law_odd ct_law_odd), sl_law_odd⟩)
    (c_law_odd : PySem.W.codeIn K cd_law_odd "_law_odd" = true)
    (k_law_odd : PySem.W.keepIn K (.ref f_law_odd) = true)
    (a_law_bent : PySem.W.nsIn K mainGlobals "_law_bent" = some (some (.ref f_law_bent)))
    (l_law_bent : K.lookup f_law_bent = some ⟨oc_law_bent, od_law_bent, .func (PySem.W.fnOf "_law_bent" "_law_bent" (defArgs s_law_bent) (defBody s_law_bent) (defScope s_law_bent) .none kV_law_bent dc_law_bent pm_law_bent an_law_bent cd_law_bent ct_law_bent), sl_law_bent⟩)
    (c_law_bent : PySem.W.codeIn K cd_law_bent "_law_bent" = true)
    (k_law_bent : PySem.W.keepIn K (.ref f_law_bent) = true)
    (a_law_letters : PySem.W.nsIn K mainGlobals "_law_letters" = some (some (.ref f_law_letters)))
    (l_law_letters : K.lookup f_law_letters = some ⟨oc_law_letters, od_law_letters, .func (PySem.W.fnOf "_law_letters" "_law_letters" (defArgs s_law_letters) (defBody s_law_letters) (defScope s_law_letters) .none kV_law_letters dc_law_letters pm_law_letters an_law_letters cd_law_letters ct_law_letters), sl_law_letters⟩)
    (c_law_letters : PySem.W.codeIn K cd_law_letters "_law_letters" = true)
    (k_law_letters : PySem.W.keepIn K (.ref f_law_letters) = true)
    (a_law_columns : PySem.W.nsIn K mainGlobals "_law_columns" = some (some (.ref f_law_columns)))
    (l_law_columns : K.lookup f_law_columns = some ⟨oc_law_columns, od_law_columns, .func (PySem.W.fnOf "_law_columns" "_law_columns" (defArgs s_law_columns) (defBody s_law_columns) (defScope s_law_columns) .none kV_law_columns dc_law_columns pm_law_columns an_law_columns cd_law_columns ct_law_columns), sl_law_columns⟩)
    (c_law_columns : PySem.W.codeIn K cd_law_columns "_law_columns" = true)
    (k_law_columns : PySem.W.keepIn K (.ref f_law_columns) = true)
    (a_law_drawn : PySem.W.nsIn K mainGlobals "_law_drawn" = some (some (.ref f_law_drawn)))
    (l_law_drawn : K.lookup f_law_drawn = some ⟨oc_law_drawn, od_law_drawn, .func (PySem.W.fnOf "_law_drawn" "_law_drawn" (defArgs s_law_drawn) (defBody s_law_drawn) (defScope s_law_drawn) .none kV_law_drawn dc_law_drawn pm_law_drawn an_law_drawn cd_law_drawn ct_law_drawn), sl_law_drawn⟩)
    (c_law_drawn : PySem.W.codeIn K cd_law_drawn "_law_drawn" = true)
    (k_law_drawn : PySem.W.keepIn K (.ref f_law_drawn) = true)
    (a_law : PySem.W.nsIn K mainGlobals "law" = some (some (.ref f_law)))
    (l_law : K.lookup f_law = some ⟨oc_law, od_law, .func (PySem.W.fnOf "law" "law" (defArgs s_law) (defBody s_law) (defScope s_law) .none kV_law dc_law pm_law an_law cd_law ct_law), sl_law⟩)
    (c_law : PySem.W.codeIn K cd_law "law" = true)
    (k_law : PySem.W.keepIn K (.ref f_law) = true)
    (tb : ∀ P ∈ Ts, h.get? P = some (PySem.W.tabObj #[]))
    (mT_sets_of : Ts[0]? = some pa_sets_of)
    (ch_sets_of : PySem.W.codeHdIn K ca_sets_of pa_sets_of = true)
    (nT_sets_of : K.lookup pa_sets_of = none)
    (hp : ∀ ns : List Int, ns.length ≤ 63 → (∀ z ∈ ns, Builtin.Int.intBits z ≤ 1048576) → KL.law ns = true) : LG.LawS l w K 9 63 "_law_script" mg fa h := by
  have e := hfa.symm.trans (PySem.W.mg_of X G0 a_law)
  cases e
  letI : Tabl := { T := [(pa_sets_of, ("sets_of" : Str) ++ ".<locals>." ++ "<lambda>")] }
  have mC_Scheme : mg "Scheme" = some (.ref C_Scheme) := PySem.W.mg_of X G0 aC_Scheme
  have Cl_Scheme : Cls K C_Scheme := ⟨pg_Scheme, hd_Scheme, po_Scheme, sa_Scheme⟩
  have It_Scheme : InsTy K mg "Scheme" C_Scheme := ⟨mC_Scheme, Cl_Scheme, ha_Scheme, hn0, ht0, mr_Scheme⟩
  have mC_MeanError : mg "MeanError" = some (.ref C_MeanError) := PySem.W.mg_of X G0 aC_MeanError
  have mC_BadColumns : mg "BadColumns" = some (.ref C_BadColumns) := PySem.W.mg_of X G0 aC_BadColumns
  have mC_BadDependence : mg "BadDependence" = some (.ref C_BadDependence) := PySem.W.mg_of X G0 aC_BadDependence
  have mC_TooMany : mg "TooMany" = some (.ref C_TooMany) := PySem.W.mg_of X G0 aC_TooMany
  have Xt_BadColumns : XTy K C_BadColumns := ⟨xga_BadColumns, xgt_BadColumns, xex_BadColumns, xhd_BadColumns, xha_BadColumns, hn0, ht0, xmr_BadColumns⟩
  have Xt_BadDependence : XTy K C_BadDependence := ⟨xga_BadDependence, xgt_BadDependence, xex_BadDependence, xhd_BadDependence, xha_BadDependence, hn0, ht0, xmr_BadDependence⟩
  have G : Gt K mg := ⟨PySem.W.mg_none_of X G0 z_ValueError,
    PySem.W.mg_none_of X G0 z_abs,
    PySem.W.mg_none_of X G0 z_all,
    PySem.W.mg_none_of X G0 z_enumerate,
    PySem.W.mg_none_of X G0 z_int,
    PySem.W.mg_none_of X G0 z_isinstance,
    PySem.W.mg_none_of X G0 z_len,
    PySem.W.mg_none_of X G0 z_list,
    PySem.W.mg_none_of X G0 z_min,
    PySem.W.mg_none_of X G0 z_range,
    PySem.W.mg_none_of X G0 z_repr,
    PySem.W.mg_none_of X G0 z_set,
    PySem.W.mg_none_of X G0 z_sorted,
    PySem.W.mg_none_of X G0 z_str,
    PySem.W.mg_none_of X G0 z_tuple,
    ⟨⟨_, .str "abcd", PySem.W.mg_of X G0 g_ALL_COLUMNS, ⟨_, rfl⟩, fun _ _ => .str _⟩⟩,
    ⟨⟨_, .int 20, PySem.W.mg_of X G0 g_MOST_DEPENDENCES, ⟨_, rfl⟩, fun _ _ => .int _⟩⟩,
    ⟨⟨_, .str "r", PySem.W.mg_of X G0 g_ROW, ⟨_, rfl⟩, fun _ _ => .str _⟩⟩,
    ⟨⟨C_Scheme, mC_Scheme, Cl_Scheme, na_Scheme_own_columns⟩⟩,
    ⟨⟨C_Scheme, mC_Scheme, Cl_Scheme, na_Scheme_own_dependences⟩⟩,
    ⟨fun T hT => kit_ty (kb_list T hT), fun p hp => by
      simp only [ic_list, List.mem_cons, List.not_mem_nil, or_false] at hp
      rcases hp with rfl
      · exact ⟨C_Scheme, It_Scheme, kk_list_Scheme⟩⟩,
    ⟨⟨C_Scheme, mC_Scheme, ⟨fun T hT => by
      simp only [List.mem_cons, List.not_mem_nil, or_false] at hT
      rcases hT with rfl | rfl | rfl | rfl | rfl | rfl | rfl
      · exact ki_Scheme_NoneType
      · exact ki_Scheme_bool
      · exact ki_Scheme_int
      · exact ki_Scheme_str
      · exact ki_Scheme_tuple
      · exact ki_Scheme_list
      · exact ki_Scheme_dict, fun p hp => by
      simp only [ic_Scheme, List.mem_cons, List.not_mem_nil, or_false] at hp
      rcases hp with rfl
      · exact ⟨C_Scheme, It_Scheme, kk_Scheme_Scheme⟩⟩⟩⟩,
    ⟨fun T hT => by
      simp only [List.mem_cons, List.not_mem_nil, or_false] at hT
      rcases hT with rfl | rfl | rfl | rfl | rfl | rfl | rfl
      · exact kitAny_cons (b := false) (kit_ty (by decide +kernel)) (fun _ => kitAny_cons (b := false) (kit_ty (by decide +kernel)) (fun _ => kitAny_nil) (by decide)) (by decide)
      · exact kitAny_cons (b := false) (kit_ty (by decide +kernel)) (fun _ => kitAny_cons (b := false) (kit_ty (by decide +kernel)) (fun _ => kitAny_nil) (by decide)) (by decide)
      · exact kitAny_cons (b := false) (kit_ty (by decide +kernel)) (fun _ => kitAny_cons (b := false) (kit_ty (by decide +kernel)) (fun _ => kitAny_nil) (by decide)) (by decide)
      · exact kitAny_cons (b := false) (kit_ty (by decide +kernel)) (fun _ => kitAny_cons (b := false) (kit_ty (by decide +kernel)) (fun _ => kitAny_nil) (by decide)) (by decide)
      · exact kitAny_cons (b := false) (kit_ty (by decide +kernel)) (fun _ => kitAny_cons (b := true) (kit_ty (by decide +kernel)) (fun z => by cases z) (by decide)) (by decide)
      · exact kitAny_cons (b := true) (kit_ty (by decide +kernel)) (fun z => by cases z) (by decide)
      · exact kitAny_cons (b := false) (kit_ty (by decide +kernel)) (fun _ => kitAny_cons (b := false) (kit_ty (by decide +kernel)) (fun _ => kitAny_nil) (by decide)) (by decide), fun p hp => by
      simp only [ic_list_tuple, List.mem_cons, List.not_mem_nil, or_false] at hp
      rcases hp with rfl
      · exact ⟨C_Scheme, It_Scheme, kk_list_tuple_Scheme⟩⟩,
    ⟨fun T hT => kit_ty (kb_tuple T hT), fun p hp => by
      simp only [ic_tuple, List.mem_cons, List.not_mem_nil, or_false] at hp
      rcases hp with rfl
      · exact ⟨C_Scheme, It_Scheme, kk_tuple_Scheme⟩⟩,
    ⟨fun T hT => kit_ty (kb_str T hT), fun p hp => by
      simp only [ic_str, List.mem_cons, List.not_mem_nil, or_false] at hp
      rcases hp with rfl
      · exact ⟨C_Scheme, It_Scheme, kk_str_Scheme⟩⟩,
    ⟨⟨C_BadDependence, mC_BadDependence, ⟨fun T hT => by
      simp only [List.mem_cons, List.not_mem_nil, or_false] at hT
      rcases hT with rfl | rfl | rfl | rfl | rfl | rfl | rfl
      · exact ki_BadDependence_NoneType
      · exact ki_BadDependence_bool
      · exact ki_BadDependence_int
      · exact ki_BadDependence_str
      · exact ki_BadDependence_tuple
      · exact ki_BadDependence_list
      · exact ki_BadDependence_dict, fun p hp => by
      simp only [ic_BadDependence, List.mem_cons, List.not_mem_nil, or_false] at hp
      rcases hp with rfl
      · exact ⟨C_Scheme, It_Scheme, kk_BadDependence_Scheme⟩⟩⟩⟩,
    ⟨⟨C_BadColumns, mC_BadColumns, ⟨fun T hT => by
      simp only [List.mem_cons, List.not_mem_nil, or_false] at hT
      rcases hT with rfl | rfl | rfl | rfl | rfl | rfl | rfl
      · exact ki_BadColumns_NoneType
      · exact ki_BadColumns_bool
      · exact ki_BadColumns_int
      · exact ki_BadColumns_str
      · exact ki_BadColumns_tuple
      · exact ki_BadColumns_list
      · exact ki_BadColumns_dict, fun p hp => by
      simp only [ic_BadColumns, List.mem_cons, List.not_mem_nil, or_false] at hp
      rcases hp with rfl
      · exact ⟨C_Scheme, It_Scheme, kk_BadColumns_Scheme⟩⟩⟩⟩,
    ⟨fun T hT => kit_ty (kb_ValueError T hT), fun p hp => by
      simp only [ic_ValueError, List.mem_cons, List.not_mem_nil, or_false] at hp
      rcases hp with rfl
      · exact ⟨C_Scheme, It_Scheme, kk_ValueError_Scheme⟩⟩,
    ⟨⟨C_TooMany, mC_TooMany, ⟨fun T hT => by
      simp only [List.mem_cons, List.not_mem_nil, or_false] at hT
      rcases hT with rfl | rfl | rfl | rfl | rfl | rfl | rfl
      · exact ki_TooMany_NoneType
      · exact ki_TooMany_bool
      · exact ki_TooMany_int
      · exact ki_TooMany_str
      · exact ki_TooMany_tuple
      · exact ki_TooMany_list
      · exact ki_TooMany_dict, fun p hp => by
      simp only [ic_TooMany, List.mem_cons, List.not_mem_nil, or_false] at hp
      rcases hp with rfl
      · exact ⟨C_Scheme, It_Scheme, kk_TooMany_Scheme⟩⟩⟩⟩,
    ⟨⟨C_MeanError, mC_MeanError, fun p hp => by
      simp only [xs_MeanError, List.mem_cons, List.not_mem_nil, or_false] at hp
      rcases hp with rfl | rfl
      · exact ⟨C_BadColumns, mC_BadColumns, kk_em_MeanError_BadColumns⟩
      · exact ⟨C_BadDependence, mC_BadDependence, kk_em_MeanError_BadDependence⟩⟩⟩,
    ⟨⟨C_BadColumns, mC_BadColumns, ⟨fun p hp => by
      simp only [xi_BadColumns, List.mem_cons, List.not_mem_nil, or_false] at hp
      rcases hp with rfl | rfl
      · exact ⟨C_BadColumns, mC_BadColumns, Xt_BadColumns, kk_xi_BadColumns_BadColumns⟩
      · exact ⟨C_BadDependence, mC_BadDependence, Xt_BadDependence, kk_xi_BadColumns_BadDependence⟩⟩⟩⟩,
    ⟨⟨C_BadDependence, mC_BadDependence, ⟨fun p hp => by
      simp only [xi_BadDependence, List.mem_cons, List.not_mem_nil, or_false] at hp
      rcases hp with rfl | rfl
      · exact ⟨C_BadColumns, mC_BadColumns, Xt_BadColumns, kk_xi_BadDependence_BadColumns⟩
      · exact ⟨C_BadDependence, mC_BadDependence, Xt_BadDependence, kk_xi_BadDependence_BadDependence⟩⟩⟩⟩,
    ⟨⟨C_TooMany, mC_TooMany, ⟨fun p hp => by
      simp only [xi_TooMany, List.mem_cons, List.not_mem_nil, or_false] at hp
      rcases hp with rfl | rfl
      · exact ⟨C_BadColumns, mC_BadColumns, Xt_BadColumns, kk_xi_TooMany_BadColumns⟩
      · exact ⟨C_BadDependence, mC_BadDependence, Xt_BadDependence, kk_xi_TooMany_BadDependence⟩⟩⟩⟩,
    ⟨fun p hp => by
      simp only [xi_ValueError, List.mem_cons, List.not_mem_nil, or_false] at hp
      rcases hp with rfl | rfl
      · exact ⟨C_BadColumns, mC_BadColumns, Xt_BadColumns, kk_xi_ValueError_BadColumns⟩
      · exact ⟨C_BadDependence, mC_BadDependence, Xt_BadDependence, kk_xi_ValueError_BadDependence⟩⟩,
    ⟨fun p hp => by
      simp only [xf_at, List.mem_cons, List.not_mem_nil, or_false] at hp
      rcases hp with rfl
      · exact ⟨C_BadDependence, mC_BadDependence, ⟨xga_BadDependence, xgt_BadDependence, xex_BadDependence, xhd_BadDependence⟩, xno_BadDependence⟩⟩,
    ⟨fun p hp => by
      simp only [xf_given, List.mem_cons, List.not_mem_nil, or_false] at hp
      rcases hp with rfl
      · exact ⟨C_BadColumns, mC_BadColumns, ⟨xga_BadColumns, xgt_BadColumns, xex_BadColumns, xhd_BadColumns⟩, xno_BadColumns⟩⟩⟩
  have F_law_begun := fun_mk (st := s_law_begun) l_law_begun c_law_begun k_law_begun
  have b_law_begun := F_law_begun.binds (ps := ["_law_script"]) fun _ _ _ _ _ _ us hl => match us, hl with | [_], _ => rfl
  have F_rises := fun_mk (st := s_rises) l_rises c_rises k_rises
  have b_rises := F_rises.binds (ps := ["letters"]) fun _ _ _ _ _ _ us hl => match us, hl with | [_], _ => rfl
  have F_is_set := fun_mk (st := s_is_set) l_is_set c_is_set k_is_set
  have b_is_set := F_is_set.binds (ps := ["columns", "thing"]) fun _ _ _ _ _ _ us hl => match us, hl with | [_, _], _ => rfl
  have F_is_dependence := fun_mk (st := s_is_dependence) l_is_dependence c_is_dependence k_is_dependence
  have b_is_dependence := F_is_dependence.binds (ps := ["columns", "thing"]) fun _ _ _ _ _ _ us hl => match us, hl with | [_, _], _ => rfl
  have F_need_dependences := fun_mk (st := s_need_dependences) l_need_dependences c_need_dependences k_need_dependences
  have b_need_dependences := F_need_dependences.binds (ps := ["columns", "dependences"]) fun _ _ _ _ _ _ us hl => match us, hl with | [_, _], _ => rfl
  have F_is_columns := fun_mk (st := s_is_columns) l_is_columns c_is_columns k_is_columns
  have b_is_columns := F_is_columns.binds (ps := ["thing"]) fun _ _ _ _ _ _ us hl => match us, hl with | [_], _ => rfl
  have F_need_columns := fun_mk (st := s_need_columns) l_need_columns c_need_columns k_need_columns
  have b_need_columns := F_need_columns.binds (ps := ["given"]) fun _ _ _ _ _ _ us hl => match us, hl with | [_], _ => rfl
  have F_Scheme_init : FunD K "__init__" "Scheme.__init__" (defArgs s_Scheme_init) (defBody s_Scheme_init) (defScope s_Scheme_init) [.ref E0_Scheme_init] [] f_Scheme_init _ := ⟨⟨_, _, _, _, _, _, _, _, _, _, rfl, l_Scheme_init, c_Scheme_init, .inr ⟨by simp, T_Scheme_init, oT_Scheme_init, [.ref E0_Scheme_init], nT_Scheme_init, rfl, lT_Scheme_init, dT_Scheme_init, (.cons rfl .nil)⟩, .inl rfl⟩, k_Scheme_init⟩
  have rE0_Scheme_init : ∀ da G, Rep ⟨K, mg⟩ da G (.ref E0_Scheme_init) (.ktup []) := fun da G => .ktup (.inr ⟨oE0_Scheme_init, #[], nE0_Scheme_init, lKE0_Scheme_init, cKE0_Scheme_init, dKE0_Scheme_init, by first | exact Nat.zero_le _ | (show _ ≤ _; simp [sizeLine_eq]), .nil⟩) .nil
  have F_sets_of := fun_mk (st := s_sets_of) l_sets_of c_sets_of k_sets_of
  have b_sets_of := F_sets_of.binds (ps := ["columns"]) fun _ _ _ _ _ _ us hl => match us, hl with | [_], _ => rfl
  have F_within := fun_mk (st := s_within) l_within c_within k_within
  have b_within := F_within.binds (ps := ["one", "other"]) fun _ _ _ _ _ _ us hl => match us, hl with | [_, _], _ => rfl
  have F_joined := fun_mk (st := s_joined) l_joined c_joined k_joined
  have b_joined := F_joined.binds (ps := ["one", "other"]) fun _ _ _ _ _ _ us hl => match us, hl with | [_, _], _ => rfl
  have F_closure_of := fun_mk (st := s_closure_of) l_closure_of c_closure_of k_closure_of
  have b_closure_of := F_closure_of.binds (ps := ["columns", "dependences", "letters"]) fun _ _ _ _ _ _ us hl => match us, hl with | [_, _, _], _ => rfl
  have F_need_set := fun_mk (st := s_need_set) l_need_set c_need_set k_need_set
  have b_need_set := F_need_set.binds (ps := ["columns", "letters"]) fun _ _ _ _ _ _ us hl => match us, hl with | [_, _], _ => rfl
  have F_Scheme_closure := fun_mk (st := s_Scheme_closure) l_Scheme_closure c_Scheme_closure k_Scheme_closure
  have b_Scheme_closure := F_Scheme_closure.binds (ps := ["self", "letters"]) fun _ _ _ _ _ _ us hl => match us, hl with | [_, _], _ => rfl
  have F_Scheme_closed_sets := fun_mk (st := s_Scheme_closed_sets) l_Scheme_closed_sets c_Scheme_closed_sets k_Scheme_closed_sets
  have b_Scheme_closed_sets := F_Scheme_closed_sets.binds (ps := ["self"]) fun _ _ _ _ _ _ us hl => match us, hl with | [_], _ => rfl
  have F_Scheme_eq := fun_mk (st := s_Scheme_eq) l_Scheme_eq c_Scheme_eq k_Scheme_eq
  have b_Scheme_eq := F_Scheme_eq.binds (ps := ["self", "other"]) fun _ _ _ _ _ _ us hl => match us, hl with | [_, _], _ => rfl
  have F_Scheme_dependences := fun_mk (st := s_Scheme_dependences) l_Scheme_dependences c_Scheme_dependences k_Scheme_dependences
  have b_Scheme_dependences := F_Scheme_dependences.binds (ps := ["self"]) fun _ _ _ _ _ _ us hl => match us, hl with | [_], _ => rfl
  have F_Scheme_columns := fun_mk (st := s_Scheme_columns) l_Scheme_columns c_Scheme_columns k_Scheme_columns
  have b_Scheme_columns := F_Scheme_columns.binds (ps := ["self"]) fun _ _ _ _ _ _ us hl => match us, hl with | [_], _ => rfl
  have F_law_told := fun_mk (st := s_law_told) l_law_told c_law_told k_law_told
  have b_law_told := F_law_told.binds (ps := ["_law_columns_here", "_law_ties"]) fun _ _ _ _ _ _ us hl => match us, hl with | [_, _], _ => rfl
  have F_law_is_rising := fun_mk (st := s_law_is_rising) l_law_is_rising c_law_is_rising k_law_is_rising
  have b_law_is_rising := F_law_is_rising.binds (ps := ["_law_thing", "_law_some"]) fun _ _ _ _ _ _ us hl => match us, hl with | [_, _], _ => rfl
  have F_law_is_tie := fun_mk (st := s_law_is_tie) l_law_is_tie c_law_is_tie k_law_is_tie
  have b_law_is_tie := F_law_is_tie.binds (ps := ["_law_columns_here", "_law_thing"]) fun _ _ _ _ _ _ us hl => match us, hl with | [_, _], _ => rfl
  have F_law_due := fun_mk (st := s_law_due) l_law_due c_law_due k_law_due
  have b_law_due := F_law_due.binds (ps := ["_law_columns_here", "_law_ties"]) fun _ _ _ _ _ _ us hl => match us, hl with | [_, _], _ => rfl
  have F_law_mixed := fun_mk (st := s_law_mixed) l_law_mixed c_law_mixed k_law_mixed
  have b_law_mixed := F_law_mixed.binds (ps := ["_law_draw"]) fun _ _ _ _ _ _ us hl => match us, hl with | [_], _ => rfl
  have F_law_take := fun_mk (st := s_law_take) l_law_take c_law_take k_law_take
  have b_law_take := F_law_take.binds (ps := ["_law_draw", "_law_size"]) fun _ _ _ _ _ _ us hl => match us, hl with | [_, _], _ => rfl
  have F_law_pick := fun_mk (st := s_law_pick) l_law_pick c_law_pick k_law_pick
  have b_law_pick := F_law_pick.binds (ps := ["_law_draw", "_law_some"]) fun _ _ _ _ _ _ us hl => match us, hl with | [_, _], _ => rfl
  have F_law_odd := fun_mk (st := s_law_odd) l_law_odd c_law_odd k_law_odd
  have b_law_odd := F_law_odd.binds (ps := ["_law_draw"]) fun _ _ _ _ _ _ us hl => match us, hl with | [_], _ => rfl
  have F_law_bent := fun_mk (st := s_law_bent) l_law_bent c_law_bent k_law_bent
  have b_law_bent := F_law_bent.binds (ps := ["_law_draw", "_law_columns_here", "_law_ties"]) fun _ _ _ _ _ _ us hl => match us, hl with | [_, _, _], _ => rfl
  have F_law_letters := fun_mk (st := s_law_letters) l_law_letters c_law_letters k_law_letters
  have b_law_letters := F_law_letters.binds (ps := ["_law_draw", "_law_some"]) fun _ _ _ _ _ _ us hl => match us, hl with | [_, _], _ => rfl
  have F_law_columns := fun_mk (st := s_law_columns) l_law_columns c_law_columns k_law_columns
  have b_law_columns := F_law_columns.binds (ps := ["_law_draw", "_law_most"]) fun _ _ _ _ _ _ us hl => match us, hl with | [_, _], _ => rfl
  have F_law_drawn := fun_mk (st := s_law_drawn) l_law_drawn c_law_drawn k_law_drawn
  have b_law_drawn := F_law_drawn.binds (ps := ["_law_draw", "_law_most", "_law_ties"]) fun _ _ _ _ _ _ us hl => match us, hl with | [_, _, _], _ => rfl
  have F_law := fun_mk (st := s_law) l_law c_law k_law
  have b_law := F_law.binds (ps := ["_law_script"]) fun _ _ _ _ _ _ us hl => match us, hl with | [_], _ => rfl
  refine ⟨PySem.W.fnOf "law" "law" (defArgs s_law) (defBody s_law) (defScope s_law) .none kV_law dc_law pm_law an_law cd_law ct_law, [(ca_sets_of, pa_sets_of)], spL ⟨K, mg⟩ law, ?_, fun s v => .of_eq rfl, fun H a ns ok hT hS => ⟨a, ns, rfl, hS, ?_, hp ns ok.1 ok.2, fun _ => rfl⟩, fun base KB NB sm TB => ?_⟩
  · intro p hp
    simp only [List.mem_cons, List.not_mem_nil, or_false] at hp
    rcases hp with rfl
    · exact ⟨tb pa_sets_of (List.mem_of_getElem? mT_sets_of), nT_sets_of, PySem.W.codeHd_of_K X ch_sets_of⟩
  · intro p hp
    have hp : p ∈ [(pa_sets_of, ("sets_of" : Str) ++ ".<locals>." ++ "<lambda>")] := hp
    simp only [List.mem_cons, List.not_mem_nil, or_false] at hp
    rcases hp with rfl
    · exact LamX.TabS.nil (hT (ca_sets_of, pa_sets_of) (by simp))
  have F_BadColumns_init := fun_mk (st := s_BadColumns_init) l_BadColumns_init c_BadColumns_init k_BadColumns_init
  have b_BadColumns_init := F_BadColumns_init.binds (ps := ["self", "given"]) fun _ _ _ _ _ _ us hl => match us, hl with | [_, _], _ => rfl
  have Ox_BadColumns : OexC K C_BadColumns := ⟨⟨_, _, _, _, _, _, _, _, _, _, _, _, _, _, _, lk_BadColumns, ki_rv_BadColumns⟩, xsa_BadColumns, xex_BadColumns, xty_BadColumns, xkc_BadColumns⟩
  have o_BadColumns_init := xinit_ok (P := l.prog) (w := w) (mg := mg) (base := base) F_BadColumns_init sc_BadColumns_init Ox_BadColumns xno_BadColumns rfl (.inl rfl) (.inl rfl)
  have qx_BadColumns : XcD l.prog w K mg base "BadColumns" "given" := ⟨⟨C_BadColumns, f_BadColumns_init, _, _, mC_BadColumns, Ox_BadColumns, a_BadColumns_init, xti_BadColumns_init, o_BadColumns_init, b_BadColumns_init⟩⟩
  have F_BadDependence_init := fun_mk (st := s_BadDependence_init) l_BadDependence_init c_BadDependence_init k_BadDependence_init
  have b_BadDependence_init := F_BadDependence_init.binds (ps := ["self", "at"]) fun _ _ _ _ _ _ us hl => match us, hl with | [_, _], _ => rfl
  have Ox_BadDependence : OexC K C_BadDependence := ⟨⟨_, _, _, _, _, _, _, _, _, _, _, _, _, _, _, lk_BadDependence, ki_rv_BadDependence⟩, xsa_BadDependence, xex_BadDependence, xty_BadDependence, xkc_BadDependence⟩
  have o_BadDependence_init := xinit_ok (P := l.prog) (w := w) (mg := mg) (base := base) F_BadDependence_init sc_BadDependence_init Ox_BadDependence xno_BadDependence rfl (.inl rfl) (.inl rfl)
  have qx_BadDependence : XcD l.prog w K mg base "BadDependence" "at" := ⟨⟨C_BadDependence, f_BadDependence_init, _, _, mC_BadDependence, Ox_BadDependence, a_BadDependence_init, xti_BadDependence_init, o_BadDependence_init, b_BadDependence_init⟩⟩
  have o_law_begun := ok_law_begun (P := l.prog) (w := w) (base := base) G F_law_begun
  have o_rises := ok_rises (P := l.prog) (w := w) (base := base) G F_rises
  have q_rises : CalD l.prog w K mg base 2 "rises" 1 [] D_rises := ⟨⟨_, _, _, [], [], o_rises, PySem.W.mg_of X G0 a_rises, k_rises, b_rises, .nil, fun _ _ => .nil⟩⟩
  have o_is_set := ok_is_set (P := l.prog) (w := w) (base := base) G F_is_set q_rises
  have q_is_set : CalD l.prog w K mg base 3 "is_set" 2 [] D_is_set := ⟨⟨_, _, _, [], [], o_is_set, PySem.W.mg_of X G0 a_is_set, k_is_set, b_is_set, .nil, fun _ _ => .nil⟩⟩
  have o_is_dependence := ok_is_dependence (P := l.prog) (w := w) (base := base) G F_is_dependence q_is_set
  have q_is_dependence : CalD l.prog w K mg base 4 "is_dependence" 2 [] D_is_dependence := ⟨⟨_, _, _, [], [], o_is_dependence, PySem.W.mg_of X G0 a_is_dependence, k_is_dependence, b_is_dependence, .nil, fun _ _ => .nil⟩⟩
  have o_need_dependences := ok_need_dependences (P := l.prog) (w := w) (base := base) G F_need_dependences q_is_dependence
  have q_need_dependences : CalD l.prog w K mg base 5 "need_dependences" 2 [] D_need_dependences := ⟨⟨_, _, _, [], [], o_need_dependences, PySem.W.mg_of X G0 a_need_dependences, k_need_dependences, b_need_dependences, .nil, fun _ _ => .nil⟩⟩
  have ox_need_dependences := okx_need_dependences (P := l.prog) (w := w) (base := base) G F_need_dependences qx_BadDependence q_is_dependence
  have qx_c_need_dependences : XalD l.prog w K mg base 5 "need_dependences" 2 [] X_need_dependences := ⟨⟨_, _, _, [], [], ox_need_dependences, PySem.W.mg_of X G0 a_need_dependences, k_need_dependences, b_need_dependences, .nil, fun _ _ => .nil⟩⟩
  have o_is_columns := ok_is_columns (P := l.prog) (w := w) (base := base) G F_is_columns q_rises
  have q_is_columns : CalD l.prog w K mg base 3 "is_columns" 1 [] D_is_columns := ⟨⟨_, _, _, [], [], o_is_columns, PySem.W.mg_of X G0 a_is_columns, k_is_columns, b_is_columns, .nil, fun _ _ => .nil⟩⟩
  have o_need_columns := ok_need_columns (P := l.prog) (w := w) (base := base) G F_need_columns q_is_columns
  have q_need_columns : CalD l.prog w K mg base 4 "need_columns" 1 [] D_need_columns := ⟨⟨_, _, _, [], [], o_need_columns, PySem.W.mg_of X G0 a_need_columns, k_need_columns, b_need_columns, .nil, fun _ _ => .nil⟩⟩
  have ox_need_columns := okx_need_columns (P := l.prog) (w := w) (base := base) G F_need_columns qx_BadColumns q_is_columns
  have qx_c_need_columns : XalD l.prog w K mg base 4 "need_columns" 1 [] X_need_columns := ⟨⟨_, _, _, [], [], ox_need_columns, PySem.W.mg_of X G0 a_need_columns, k_need_columns, b_need_columns, .nil, fun _ _ => .nil⟩⟩
  have o_Scheme_init := ok_Scheme_init (P := l.prog) (w := w) (base := base) G F_Scheme_init q_need_dependences q_need_columns
  have ox_Scheme_init := okx_Scheme_init (P := l.prog) (w := w) (base := base) G F_Scheme_init qx_c_need_columns qx_c_need_dependences q_need_columns
  obtain ⟨ik_Scheme_initdependences_columns, kn_Scheme_initdependences_columns⟩ := F_Scheme_init.kbindsD (ps := ["self", "columns", "dependences"]) 1 ["dependences", "columns"] (fun {α} (us its ws : List α) => us ++ pickL [1, 0] ws) (by simp) (fun r _ r2 => r.append (vals_pickL r2 _)) (fun T kV doc pm an cdv ct us its ws h1 h2 h3 => match us, its, ws, h1, h2, h3 with | [_], [_], [_, _], _, _, _ => ⟨_, rfl, rfl⟩)
  have q_kk_Scheme_init_dependences_columns : MkkD l.prog w K mg base 6 "Scheme" 3 ["dependences", "columns"] [1, 0] I_Scheme := ⟨⟨C_Scheme, _, _, _, ⟨mk_Scheme, a_Scheme_init, i_Scheme_init, kc_Scheme⟩, o_Scheme_init, mC_Scheme, fun s self ws X0 hl => kn_Scheme_initdependences_columns.to s [self] ws X0 rfl hl⟩⟩
  obtain ⟨ds_Scheme_init_1, vd_Scheme_init_1, bd_Scheme_init_1⟩ := F_Scheme_init.binds1 (ps := ["self", "columns", "dependences"]) 2 0 (by simp) rfl (fun T kV doc pm an cdv ct us its h1 h2 => match us, its, h1, h2 with | [_, _], [_], _, _ => ⟨_, rfl, rfl⟩)
  have q_k_Scheme_init_1 : MakD l.prog w K mg base 6 "Scheme" 3 [.ktup []] I_Scheme := ⟨⟨C_Scheme, _, _, _, ds_Scheme_init_1, [.ref E0_Scheme_init], ⟨mk_Scheme, a_Scheme_init, i_Scheme_init, kc_Scheme⟩, o_Scheme_init, mC_Scheme, bd_Scheme_init_1, vd_Scheme_init_1, fun da G => (.cons (rE0_Scheme_init da G) .nil)⟩⟩
  obtain ⟨ds_Scheme_init_2, vd_Scheme_init_2, bd_Scheme_init_2⟩ := F_Scheme_init.binds1 (ps := ["self", "columns", "dependences"]) 3 1 (by simp) rfl (fun T kV doc pm an cdv ct us its h1 h2 => match us, its, h1, h2 with | [_, _, _], [_], _, _ => ⟨_, rfl, rfl⟩)
  have q_k_Scheme_init_2 : MakD l.prog w K mg base 6 "Scheme" 3 [] I_Scheme := ⟨⟨C_Scheme, _, _, _, ds_Scheme_init_2, [], ⟨mk_Scheme, a_Scheme_init, i_Scheme_init, kc_Scheme⟩, o_Scheme_init, mC_Scheme, bd_Scheme_init_2, vd_Scheme_init_2, fun _ _ => .nil⟩⟩
  have qx_z_Scheme_init : XakD l.prog w K mg base 6 "Scheme" 3 [] X_Scheme_init := ⟨⟨C_Scheme, _, _, _, ds_Scheme_init_2, [], ⟨mk_Scheme, a_Scheme_init, i_Scheme_init, kc_Scheme⟩, ox_Scheme_init, mC_Scheme, bd_Scheme_init_2, vd_Scheme_init_2, fun _ _ => .nil⟩⟩
  have o_sets_of := ok_sets_of (P := l.prog) (w := w) (base := base) G F_sets_of (TB (ca_sets_of, pa_sets_of) (by simp)) (fun _ _ _ _ _ _ _ _ _ z => by rw [l_sets_of] at z; cases z; rfl) (show (pa_sets_of, ("sets_of" : Str) ++ ".<locals>." ++ "<lambda>") ∈ [(pa_sets_of, ("sets_of" : Str) ++ ".<locals>." ++ "<lambda>")] by simp) (fun p hp e => by
      have hp : p ∈ [(pa_sets_of, ("sets_of" : Str) ++ ".<locals>." ++ "<lambda>")] := hp
      simp only [List.mem_cons, List.not_mem_nil, or_false] at hp
      rcases hp with rfl
      · rfl)
  have q_sets_of : CalD l.prog w K mg base 5 "sets_of" 1 [] D_sets_of := ⟨⟨_, _, _, [], [], o_sets_of, PySem.W.mg_of X G0 a_sets_of, k_sets_of, b_sets_of, .nil, fun _ _ => .nil⟩⟩
  have o_within := ok_within (P := l.prog) (w := w) (base := base) G F_within
  have q_within : CalD l.prog w K mg base 2 "within" 2 [] D_within := ⟨⟨_, _, _, [], [], o_within, PySem.W.mg_of X G0 a_within, k_within, b_within, .nil, fun _ _ => .nil⟩⟩
  have o_joined := ok_joined (P := l.prog) (w := w) (base := base) G F_joined
  have q_joined : CalD l.prog w K mg base 2 "joined" 2 [] D_joined := ⟨⟨_, _, _, [], [], o_joined, PySem.W.mg_of X G0 a_joined, k_joined, b_joined, .nil, fun _ _ => .nil⟩⟩
  have o_closure_of := ok_closure_of (P := l.prog) (w := w) (base := base) G F_closure_of q_within q_joined
  have q_closure_of : CalD l.prog w K mg base 3 "closure_of" 3 [] D_closure_of := ⟨⟨_, _, _, [], [], o_closure_of, PySem.W.mg_of X G0 a_closure_of, k_closure_of, b_closure_of, .nil, fun _ _ => .nil⟩⟩
  have o_need_set := ok_need_set (P := l.prog) (w := w) (base := base) G F_need_set q_is_set
  have q_need_set : CalD l.prog w K mg base 4 "need_set" 2 [] D_need_set := ⟨⟨_, _, _, [], [], o_need_set, PySem.W.mg_of X G0 a_need_set, k_need_set, b_need_set, .nil, fun _ _ => .nil⟩⟩
  have o_Scheme_closure := ok_Scheme_closure (P := l.prog) (w := w) (base := base) G F_Scheme_closure q_closure_of q_need_set
  have q_m_Scheme_closure : MetD l.prog w K mg base 5 "Scheme" "closure" 2 [] D_Scheme_closure := ⟨⟨C_Scheme, _, _, _, [], [], mC_Scheme, Cl_Scheme, ⟨a_Scheme_closure, i_Scheme_closure, k_Scheme_closure⟩, o_Scheme_closure, b_Scheme_closure, .nil, fun _ _ => .nil⟩⟩
  have o_Scheme_closed_sets := ok_Scheme_closed_sets (P := l.prog) (w := w) (base := base) G F_Scheme_closed_sets q_sets_of q_m_Scheme_closure
  have q_m_Scheme_closed_sets : MetD l.prog w K mg base 6 "Scheme" "closed_sets" 1 [] D_Scheme_closed_sets := ⟨⟨C_Scheme, _, _, _, [], [], mC_Scheme, Cl_Scheme, ⟨a_Scheme_closed_sets, i_Scheme_closed_sets, k_Scheme_closed_sets⟩, o_Scheme_closed_sets, b_Scheme_closed_sets, .nil, fun _ _ => .nil⟩⟩
  have o_Scheme_eq := ok_Scheme_eq (P := l.prog) (w := w) (base := base) G F_Scheme_eq q_m_Scheme_closed_sets
  have q_q_Scheme_eq : EqsD l.prog w K mg base 7 "Scheme" icq_Scheme D_Scheme_eq := ⟨⟨C_Scheme, _, _, _, mC_Scheme, ne_Scheme, so_Scheme, a_Scheme_eq, i_Scheme_eq, o_Scheme_eq, b_Scheme_eq, ⟨fun T hT => by
      simp only [List.mem_cons, List.not_mem_nil, or_false] at hT
      rcases hT with rfl | rfl | rfl | rfl | rfl | rfl | rfl
      · exact ⟨nf_Scheme_NoneType, rfl⟩
      · exact ⟨nf_Scheme_bool, rfl⟩
      · exact ⟨nf_Scheme_int, rfl⟩
      · exact ⟨nf_Scheme_str, rfl⟩
      · exact ⟨nf_Scheme_tuple, rfl⟩
      · exact ⟨nf_Scheme_list, rfl⟩
      · exact ⟨nf_Scheme_dict, rfl⟩, fun p hp => by
      simp only [icq_Scheme, List.mem_cons, List.not_mem_nil, or_false] at hp
      rcases hp with rfl
      · exact ⟨C_Scheme, It_Scheme, ⟨nfi_Scheme_Scheme, rfl⟩⟩⟩⟩⟩
  have o_Scheme_dependences := ok_Scheme_dependences (P := l.prog) (w := w) (base := base) G F_Scheme_dependences
  have q_p_Scheme_dependences : PrpD l.prog w K mg base 2 "Scheme" "dependences" D_Scheme_dependences := ⟨⟨C_Scheme, p_Scheme_dependences, _, _, _, mC_Scheme, Cl_Scheme, ⟨a_Scheme_dependences, pg_Scheme_dependences, pt_Scheme_dependences, ⟨_, pr_Scheme_dependences⟩⟩, o_Scheme_dependences, b_Scheme_dependences⟩⟩
  have o_Scheme_columns := ok_Scheme_columns (P := l.prog) (w := w) (base := base) G F_Scheme_columns
  have q_p_Scheme_columns : PrpD l.prog w K mg base 2 "Scheme" "columns" D_Scheme_columns := ⟨⟨C_Scheme, p_Scheme_columns, _, _, _, mC_Scheme, Cl_Scheme, ⟨a_Scheme_columns, pg_Scheme_columns, pt_Scheme_columns, ⟨_, pr_Scheme_columns⟩⟩, o_Scheme_columns, b_Scheme_columns⟩⟩
  have o_law_told := ok_law_told (P := l.prog) (w := w) (base := base) G F_law_told qx_z_Scheme_init q_k_Scheme_init_2
  have q_law_told : CalD l.prog w K mg base 8 "_law_told" 2 [] D_law_told := ⟨⟨_, _, _, [], [], o_law_told, PySem.W.mg_of X G0 a_law_told, k_law_told, b_law_told, .nil, fun _ _ => .nil⟩⟩
  have o_law_is_rising := ok_law_is_rising (P := l.prog) (w := w) (base := base) G F_law_is_rising
  have q_law_is_rising : CalD l.prog w K mg base 2 "_law_is_rising" 2 [] D_law_is_rising := ⟨⟨_, _, _, [], [], o_law_is_rising, PySem.W.mg_of X G0 a_law_is_rising, k_law_is_rising, b_law_is_rising, .nil, fun _ _ => .nil⟩⟩
  have o_law_is_tie := ok_law_is_tie (P := l.prog) (w := w) (base := base) G F_law_is_tie q_law_is_rising
  have q_law_is_tie : CalD l.prog w K mg base 3 "_law_is_tie" 2 [] D_law_is_tie := ⟨⟨_, _, _, [], [], o_law_is_tie, PySem.W.mg_of X G0 a_law_is_tie, k_law_is_tie, b_law_is_tie, .nil, fun _ _ => .nil⟩⟩
  have o_law_due := ok_law_due (P := l.prog) (w := w) (base := base) G F_law_due q_law_is_tie q_law_is_rising
  have q_law_due : CalD l.prog w K mg base 4 "_law_due" 2 [] D_law_due := ⟨⟨_, _, _, [], [], o_law_due, PySem.W.mg_of X G0 a_law_due, k_law_due, b_law_due, .nil, fun _ _ => .nil⟩⟩
  have o_law_mixed := ok_law_mixed (P := l.prog) (w := w) (base := base) G F_law_mixed
  have q_law_mixed : CalD l.prog w K mg base 2 "_law_mixed" 1 [] D_law_mixed := ⟨⟨_, _, _, [], [], o_law_mixed, PySem.W.mg_of X G0 a_law_mixed, k_law_mixed, b_law_mixed, .nil, fun _ _ => .nil⟩⟩
  have o_law_take := ok_law_take (P := l.prog) (w := w) (base := base) G F_law_take q_law_mixed
  have q_law_take : CalD l.prog w K mg base 3 "_law_take" 2 [] D_law_take := ⟨⟨_, _, _, [], [], o_law_take, PySem.W.mg_of X G0 a_law_take, k_law_take, b_law_take, .nil, fun _ _ => .nil⟩⟩
  have o_law_pick := ok_law_pick (P := l.prog) (w := w) (base := base) G F_law_pick q_law_take
  have q_law_pick : CalD l.prog w K mg base 4 "_law_pick" 2 [] D_law_pick := ⟨⟨_, _, _, [], [], o_law_pick, PySem.W.mg_of X G0 a_law_pick, k_law_pick, b_law_pick, .nil, fun _ _ => .nil⟩⟩
  have o_law_odd := ok_law_odd (P := l.prog) (w := w) (base := base) G F_law_odd q_law_pick
  have q_law_odd : CalD l.prog w K mg base 5 "_law_odd" 1 [] D_law_odd := ⟨⟨_, _, _, [], [], o_law_odd, PySem.W.mg_of X G0 a_law_odd, k_law_odd, b_law_odd, .nil, fun _ _ => .nil⟩⟩
  have o_law_bent := ok_law_bent (P := l.prog) (w := w) (base := base) G F_law_bent q_law_pick q_law_odd q_law_take
  have q_law_bent : CalD l.prog w K mg base 6 "_law_bent" 3 [] D_law_bent := ⟨⟨_, _, _, [], [], o_law_bent, PySem.W.mg_of X G0 a_law_bent, k_law_bent, b_law_bent, .nil, fun _ _ => .nil⟩⟩
  have o_law_letters := ok_law_letters (P := l.prog) (w := w) (base := base) G F_law_letters q_law_take
  have q_law_letters : CalD l.prog w K mg base 4 "_law_letters" 2 [] D_law_letters := ⟨⟨_, _, _, [], [], o_law_letters, PySem.W.mg_of X G0 a_law_letters, k_law_letters, b_law_letters, .nil, fun _ _ => .nil⟩⟩
  have o_law_columns := ok_law_columns (P := l.prog) (w := w) (base := base) G F_law_columns q_law_take
  have q_law_columns : CalD l.prog w K mg base 4 "_law_columns" 2 [] D_law_columns := ⟨⟨_, _, _, [], [], o_law_columns, PySem.W.mg_of X G0 a_law_columns, k_law_columns, b_law_columns, .nil, fun _ _ => .nil⟩⟩
  have o_law_drawn := ok_law_drawn (P := l.prog) (w := w) (base := base) G F_law_drawn q_law_pick q_law_take q_law_letters q_law_columns
  have q_law_drawn : CalD l.prog w K mg base 5 "_law_drawn" 3 [] D_law_drawn := ⟨⟨_, _, _, [], [], o_law_drawn, PySem.W.mg_of X G0 a_law_drawn, k_law_drawn, b_law_drawn, .nil, fun _ _ => .nil⟩⟩
  have e2 := l_law
  exact ok_law G F_law o_law_begun (PySem.W.mg_of X G0 a_law_begun) k_law_begun b_law_begun sm q_k_Scheme_init_1 q_k_Scheme_init_2 q_q_Scheme_eq q_p_Scheme_dependences q_p_Scheme_columns q_kk_Scheme_init_dependences_columns q_law_told q_law_due q_law_take q_law_pick q_law_odd q_law_bent q_law_drawn
end KL

end sec_Asm
section sec_EV
set_option maxRecDepth 100000
set_option maxHeartbeats 5000000
/-! EV: running denotations by plain rules. -/
namespace FD
open PySem L2
local instance tl0 : Tabl := { T := [] }
def R {α : Type} (f : M α) (ρ : Env) (w : W) (Q : α → Env → W → Prop) : Prop := ∃ a ρ' w', f ρ w = some (a, ρ', w') ∧ Q a ρ' w'
section
variable {α β : Type} {f : M α} {ρ : Env} {w : W} {d d1 d2 : D} {i : Nat} {r r1 r2 : RV}
theorem R.mono {Q Q' : α → Env → W → Prop} (h : R f ρ w Q) (k : ∀ a ρ' w', Q a ρ' w' → Q' a ρ' w') : R f ρ w Q' := let ⟨a, ρ', w', e, q⟩ := h; ⟨a, ρ', w', e, k _ _ _ q⟩
theorem R_some {a : α} {ρ' : Env} {w' : W} {Q : α → Env → W → Prop} (h : f ρ w = some (a, ρ', w')) : R f ρ w Q ↔ Q a ρ' w' :=
  ⟨fun ⟨_, _, _, e, q⟩ => by rw [h] at e; cases e; exact q, fun q => ⟨_, _, _, h, q⟩⟩
@[simp] theorem R_pure {a : α} {Q : α → Env → W → Prop} : R (pureM a) ρ w Q ↔ Q a ρ w := R_some rfl
@[simp] theorem R_bind {k : α → M β} {Q : β → Env → W → Prop} : R (bindM f k) ρ w Q ↔ R f ρ w fun a ρ' w' => R (k a) ρ' w' Q := by
  constructor
  · rintro ⟨b, ρ', w', e, q⟩
    obtain ⟨a, ρ1, w1, e1, e2⟩ := bindM_some e
    exact ⟨a, ρ1, w1, e1, b, ρ', w', e2, q⟩
  · rintro ⟨a, ρ1, w1, e1, b, ρ', w', e2, q⟩
    refine ⟨b, ρ', w', ?_, q⟩
    unfold bindM
    rw [e1]
    exact e2
@[simp] theorem R_if {b : Prop} [Decidable b] {f g : M α} {Q : α → Env → W → Prop} : R (if b then f else g) ρ w Q ↔ if b then R f ρ w Q else R g ρ w Q := by
  split <;> exact Iff.rfl
theorem R_var {Q : RV → Env → W → Prop} (h : ρ[i]? = some (some (.val d))) : R (varM i) ρ w Q ↔ Q (.sh d) ρ w := R_some (by unfold varM; rw [h])
theorem R_own {Q : RV → Env → W → Prop} (h : ρ[i]? = some (some (.own d))) : R (varM i) ρ w Q ↔ Q (.ow i) ρ w := R_some (by unfold varM; rw [h])
@[simp] theorem R_lift2 {g : D → D → Option RV} {Q : RV → Env → W → Prop} : R (lift2 g (.sh d1) (.sh d2)) ρ w Q ↔ ∃ r, g d1 d2 = some r ∧ Q r ρ w := by
  constructor
  · rintro ⟨a, ρ', w', e, q⟩
    obtain ⟨a1, a2, r, p1, p2, eg, ez⟩ := lift2_some e
    cases p1
    cases p2
    cases ez
    exact ⟨_, eg, q⟩
  · rintro ⟨r, eg, q⟩
    exact ⟨r, ρ, w, by simp [lift2, peek, eg], q⟩
theorem R_lift2' {g : D → D → Option RV} {Q : RV → Env → W → Prop} (p1 : peek ρ w r1 = some d1) (p2 : peek ρ w r2 = some d2) : R (lift2 g r1 r2) ρ w Q ↔ ∃ r, g d1 d2 = some r ∧ Q r ρ w := by
  constructor
  · rintro ⟨a, ρ', w', e, q⟩
    obtain ⟨a1, a2, r, q1, q2, eg, ez⟩ := lift2_some e
    rw [p1] at q1
    rw [p2] at q2
    cases q1
    cases q2
    cases ez
    exact ⟨_, eg, q⟩
  · rintro ⟨r, eg, q⟩
    exact ⟨r, ρ, w, by simp [lift2, p1, p2, eg], q⟩
theorem R_lift1' {g : D → Option RV} {Q : RV → Env → W → Prop} (p1 : peek ρ w r1 = some d1) : R (lift1 g r1) ρ w Q ↔ ∃ r, g d1 = some r ∧ Q r ρ w := by
  constructor
  · rintro ⟨a, ρ', w', e, q⟩
    obtain ⟨a1, r, q1, eg, ez⟩ := lift1_some e
    rw [p1] at q1
    cases q1
    cases ez
    exact ⟨_, eg, q⟩
  · rintro ⟨r, eg, q⟩
    exact ⟨r, ρ, w, by simp [lift1, p1, eg], q⟩
@[simp] theorem R_lift1 {g : D → Option RV} {Q : RV → Env → W → Prop} : R (lift1 g (.sh d1)) ρ w Q ↔ ∃ r, g d1 = some r ∧ Q r ρ w := R_lift1' rfl
theorem R_liftN {g : List D → Option RV} {rs : List RV} {ds : List D} {Q : RV → Env → W → Prop} (p1 : peeks ρ w rs = some ds) : R (liftN g rs) ρ w Q ↔ ∃ r, g ds = some r ∧ Q r ρ w := by
  constructor
  · rintro ⟨a, ρ', w', e, q⟩
    obtain ⟨a1, r, q1, eg, ez⟩ := liftN_some e
    rw [p1] at q1
    cases q1
    cases ez
    exact ⟨_, eg, q⟩
  · rintro ⟨r, eg, q⟩
    exact ⟨r, ρ, w, by simp [liftN, p1, eg], q⟩
@[simp] theorem R_bool {f : M RV} {Q : Bool → Env → W → Prop} : R (boolM f) ρ w Q ↔ R f ρ w fun r ρ' w' => ∃ b, r = .sh (.bl b) ∧ Q b ρ' w' := by
  unfold boolM
  rw [R_bind]
  constructor
  · rintro ⟨r, ρ1, w1, e1, b, ρ', w', e2, q⟩
    obtain ⟨b', er, ez⟩ := boolM_some e2
    obtain ⟨z1, z2, z3⟩ := ez
    exact ⟨r, ρ1, w1, e1, _, er, q⟩
  · rintro ⟨r, ρ1, w1, e1, b, rfl, q⟩
    exact ⟨_, ρ1, w1, e1, b, ρ1, w1, rfl, q⟩
@[simp] theorem R_escsh {Q : D → Env → W → Prop} : R (escR (.sh d)) ρ w Q ↔ Q d ρ w := R_some rfl
@[simp] theorem R_escfr {Q : D → Env → W → Prop} : R (escR (.fr d)) ρ w Q ↔ Q d ρ w := R_some rfl
@[simp] theorem R_escn {Q : List D → Env → W → Prop} : R (escAll []) ρ w Q ↔ Q [] ρ w := R_some rfl
@[simp] theorem R_escc {rs : List RV} {Q : List D → Env → W → Prop} : R (escAll (r :: rs)) ρ w Q ↔ R (escR r) ρ w fun d ρ' w' => R (escAll rs) ρ' w' fun ds ρ2 w2 => Q (d :: ds) ρ2 w2 := by
  show R (bindM (escR r) fun d => bindM (escAll rs) fun ds => pureM (d :: ds)) ρ w Q ↔ _
  simp
@[simp] theorem R_setM {s : Slot} {Q : Unit → Env → W → Prop} : R (setM i s) ρ w Q ↔ Q () (ρ.set i (some s)) w := R_some rfl
@[simp] theorem R_asgfr {Q : Unit → Env → W → Prop} : R (asgM i (.fr d)) ρ w Q ↔ Q () (ρ.set i (some (.own d))) w := R_some rfl
@[simp] theorem R_asgsh {Q : Unit → Env → W → Prop} : R (asgM i (.sh d)) ρ w Q ↔ Q () (ρ.set i (some (.val d))) w := R_some rfl
@[simp] theorem R_drI {g : W → Int} {fo : M RV} {Q : RV → Env → W → Prop} : R (drI g fo) ρ w Q ↔ R fo ρ w fun r ρ' w' => r = .sh .draw ∧ Q (.sh (.int (g w'))) ρ' w' := by
  unfold drI
  rw [R_bind]
  constructor
  · rintro ⟨r, ρ1, w1, e1, b, ρ', w', e2, q⟩
    split at e2
    · cases e2
      exact ⟨_, ρ1, w1, e1, rfl, q⟩
    · cases e2
  · rintro ⟨r, ρ1, w1, e1, rfl, q⟩
    exact ⟨_, ρ1, w1, e1, _, ρ1, w1, rfl, q⟩
def Ran {β : Type} (o : Option (β × W)) (Q : β → W → Prop) : Prop := ∃ r w', o = some (r, w') ∧ Q r w'
@[simp] theorem Ran_some {β : Type} {a : β} {Q : β → W → Prop} : Ran (some (a, w)) Q ↔ Q a w := ⟨fun ⟨_, _, e, q⟩ => by cases e; exact q, fun q => ⟨_, _, rfl, q⟩⟩
theorem Ran.mono {β : Type} {o : Option (β × W)} {Q Q' : β → W → Prop} (h : Ran o Q) (k : ∀ a w', Q a w' → Q' a w') : Ran o Q' := let ⟨a, w', e, q⟩ := h; ⟨a, w', e, k _ _ q⟩
@[simp] theorem R_runD {den : List D → W → Option (RV × W)} {ds : List D} {Q : RV → Env → W → Prop} : R (runD den ds) ρ w Q ↔ Ran (den ds w) fun r w' => Q r ρ w' := by
  constructor
  · rintro ⟨a, ρ', w', e, q⟩
    obtain ⟨r, w2, e2, ez⟩ := runD_some e
    cases ez
    exact ⟨_, _, e2, q⟩
  · rintro ⟨r, w', e, q⟩
    exact ⟨r, ρ, w', by simp [runD, e], q⟩
/-- a def's denotation -/
theorem D_run {n : Nat} {body : M Fl} {ds : List D} {Q : RV → W → Prop} (h : R body (startE n ds) w fun fl ρ' w' => ∃ r', (match fl with | .ret r => outR ρ' r = some r' | .nx => r' = .sh .non | _ => False) ∧ Q r' w') : Ran (denB n body ds w) Q := by
  obtain ⟨fl, ρ', w', e, r', hr, q⟩ := h
  refine ⟨r', w', ?_, q⟩
  unfold denB
  rw [e]
  cases fl with
  | ret r =>
    have hr : outR ρ' r = some r' := hr
    simp [endB, hr]
  | nx =>
    have hr : r' = .sh .non := hr
    rw [hr]
    rfl
  | bk => exact hr.elim
  | ct => exact hr.elim
@[simp] theorem R_seq {f g : M Fl} {Q : Fl → Env → W → Prop} : R (seqM f g) ρ w Q ↔ R f ρ w fun fl ρ' w' => match fl with
    | .nx => R g ρ' w' Q
    | fl => Q fl ρ' w' := by
  unfold seqM
  rw [R_bind]
  constructor
  · intro h
    refine h.mono fun fl ρ' w' q => ?_
    cases fl with
    | nx => exact q
    | ret r => exact R_pure.mp q
    | bk => exact R_pure.mp q
    | ct => exact R_pure.mp q
  · intro h
    refine h.mono fun fl ρ' w' q => ?_
    cases fl with
    | nx => exact q
    | ret r => exact R_pure.mpr q
    | bk => exact R_pure.mpr q
    | ct => exact R_pure.mpr q
theorem eqD_int (a b : Int) : eqD (.int a) (.int b) = some (.sh (.bl (a == b))) := by
  simp [eqD, cmpD, toPy, SeqAt.shaped, PyData.canLay0, PyData.depth, PyData.eqv]
theorem neD_int (a b : Int) : neD (.int a) (.int b) = some (.sh (.bl (!(a == b)))) := by
  simp [neD, cmpD, toPy, SeqAt.shaped, PyData.canLay0, PyData.depth, PyData.eqv]
@[simp] theorem R_drT {g : W → Bool} {fo : M RV} {Q : Bool → Env → W → Prop} : R (drT g fo) ρ w Q ↔ R fo ρ w fun r ρ' w' => r = .sh .draw ∧ Q (g w') ρ' w' := by
  unfold drT
  rw [R_bind]
  constructor
  · rintro ⟨r, ρ1, w1, e1, b, ρ', w', e2, q⟩
    split at e2
    · cases e2
      exact ⟨_, ρ1, w1, e1, rfl, q⟩
    · cases e2
  · rintro ⟨r, ρ1, w1, e1, rfl, q⟩
    exact ⟨_, ρ1, w1, e1, _, ρ1, w1, rfl, q⟩
@[simp] theorem R_drSet {g : W → Int → W} {fv fo : M RV} {Q : Fl → Env → W → Prop} : R (drSet g fv fo) ρ w Q ↔ R fv ρ w fun r1 ρ1 w1 => R fo ρ1 w1 fun r ρ' w' => ∃ i, r1 = .sh (.int i) ∧ r = .sh .draw ∧ Q .nx ρ' (g w' i) := by
  unfold drSet
  rw [R_bind]
  constructor
  · rintro ⟨r1, ρ1, w1, e1, q⟩
    rw [R_bind] at q
    obtain ⟨r, ρ2, w2, e2, b, ρ', w', e3, q⟩ := q
    refine ⟨r1, ρ1, w1, e1, r, ρ2, w2, e2, ?_⟩
    split at e3
    · cases e3
      exact ⟨_, rfl, rfl, q⟩
    · cases e3
  · rintro ⟨r1, ρ1, w1, e1, r, ρ2, w2, e2, i, rfl, rfl, q⟩
    refine ⟨_, ρ1, w1, e1, ?_⟩
    exact R_bind.mpr ⟨_, ρ2, w2, e2, _, _, _, rfl, q⟩
theorem R_drPop {fo : M RV} {Q : RV → Env → W → Prop} (h : R fo ρ w fun r ρ' w' => r = .sh .draw ∧ ∃ x xs, w'.wide = x :: xs ∧ xs.length < 1000000 ∧ Q (.sh (.int x)) ρ' { w' with wide := xs }) : R (drPop fo) ρ w Q := by
  obtain ⟨r, ρ', w', e, rfl, x, xs, e1, e2, q⟩ := h
  refine ⟨_, ρ', _, ?_, q⟩
  unfold drPop bindM
  rw [e]
  simp [e1, e2]
theorem R_forL {g : D → M Unit} {body : M Fl} {Q : Fl → Env → W → Prop} (Inv : List D → Env → W → Prop) (step : ∀ d ds ρ w, Inv (d :: ds) ρ w → R (g d) ρ w fun _ ρ1 w1 => R body ρ1 w1 fun fl ρ2 w2 => match fl with
    | .nx => Inv ds ρ2 w2
    | .ct => Inv ds ρ2 w2
    | .bk => Q .nx ρ2 w2
    | .ret r => Q (.ret r) ρ2 w2) (fin : ∀ ρ w, Inv [] ρ w → Q .nx ρ w) : ∀ (ds : List D) (ρ : Env) (w : W), Inv ds ρ w → R (forL g body ds) ρ w Q
  | [], ρ, w, h => R_pure.mpr (fin ρ w h)
  | d :: ds, ρ, w, h => by
    show R (bindM (g d) fun _ => bindM body fun fl => match fl with
      | .nx => forL g body ds
      | .ct => forL g body ds
      | .bk => pureM .nx
      | .ret r => pureM (.ret r)) ρ w Q
    rw [R_bind]
    refine (step d ds ρ w h).mono fun _ ρ1 w1 q => ?_
    rw [R_bind]
    refine q.mono fun fl ρ2 w2 q => ?_
    cases fl with
    | nx => exact R_forL Inv step fin ds ρ2 w2 q
    | ct => exact R_forL Inv step fin ds ρ2 w2 q
    | bk => exact R_pure.mpr q
    | ret r => exact R_pure.mpr q
@[simp] theorem R_for {fi : M (List D)} {g : D → M Unit} {body : M Fl} {Q : Fl → Env → W → Prop} : R (forM fi g body) ρ w Q ↔ R fi ρ w fun ds ρ' w' => R (forL g body ds) ρ' w' Q := by
  unfold forM
  exact R_bind
@[simp] theorem R_gName {Q : Unit → Env → W → Prop} : R (gNameM i d) ρ w Q ↔ Q () (ρ.set i (some (.val d))) w := R_some rfl
@[simp] theorem R_drC {fo : M RV} {Q : List D → Env → W → Prop} : R (drC fo) ρ w Q ↔ R fo ρ w fun r ρ' w' => r = .sh .draw ∧ Q (w'.cells.map D.int) ρ' w' := by
  unfold drC
  rw [R_bind]
  constructor
  · rintro ⟨r, ρ1, w1, e1, b, ρ', w', e2, q⟩
    split at e2
    · cases e2
      exact ⟨_, ρ1, w1, e1, rfl, q⟩
    · cases e2
  · rintro ⟨r, ρ1, w1, e1, rfl, q⟩
    exact ⟨_, ρ1, w1, e1, _, ρ1, w1, rfl, q⟩
theorem R_iter {ds : List D} {Q : List D → Env → W → Prop} (h : iterD d = some ds) : R (iterM (.sh d)) ρ w Q ↔ Q ds ρ w := R_some (by unfold iterM bindM; simp [escR, pureM, h])
theorem R_iterF {ds : List D} {Q : List D → Env → W → Prop} (h : iterD d = some ds) : R (iterM (.fr d)) ρ w Q ↔ Q ds ρ w := R_some (by unfold iterM bindM; simp [escR, pureM, h])
theorem lg {i : Int} {n : Nat} (h0 : 0 ≤ i) (h : i < 2 ^ n) (hn : 0 < n) : i.natAbs.log2 < n := by
  rcases Nat.eq_zero_or_pos i.natAbs with z | z
  · rw [z]
    simpa using hn
  · refine (Nat.log2_lt (by omega)).mpr ?_
    have : (i.natAbs : Int) < 2 ^ n := by rw [Int.natAbs_of_nonneg h0]; exact h
    exact_mod_cast this
@[simp] theorem R_offsh {Q : RV → Env → W → Prop} : R (offR (.sh d)) ρ w Q ↔ Q (.sh d) ρ w := R_some rfl
@[simp] theorem R_offfr {Q : RV → Env → W → Prop} : R (offR (.fr d)) ρ w Q ↔ Q (.fr d) ρ w := R_some rfl
variable {fa fb : M RV} {ta tb : M Bool}
@[simp] theorem R_op2 {g : D → D → Option RV} {Q : RV → Env → W → Prop} : R (op2M g fa fb) ρ w Q ↔ R fa ρ w fun r1 ρ1 w1 => R fb ρ1 w1 fun r2 ρ2 w2 => R (lift2 g r1 r2) ρ2 w2 Q := by
  unfold op2M
  simp
@[simp] theorem R_op1 {g : D → Option RV} {Q : RV → Env → W → Prop} : R (op1M g fa) ρ w Q ↔ R fa ρ w fun r1 ρ1 w1 => R (lift1 g r1) ρ1 w1 Q := by
  unfold op1M
  simp
@[simp] theorem R_bM {g : List D → Option RV} {fs : M (List RV)} {Q : RV → Env → W → Prop} : R (bM g fs) ρ w Q ↔ R fs ρ w fun rs ρ1 w1 => R (liftN g rs) ρ1 w1 Q := by
  unfold bM
  simp
@[simp] theorem R_consA {fs : M (List RV)} {Q : List RV → Env → W → Prop} : R (consA fa fs) ρ w Q ↔ R fa ρ w fun r ρ1 w1 => R fs ρ1 w1 fun rs ρ2 w2 => Q (r :: rs) ρ2 w2 := by
  unfold consA
  simp
@[simp] theorem R_ifM {f g : M α} {Q : α → Env → W → Prop} : R (ifM ta f g) ρ w Q ↔ R ta ρ w fun b ρ1 w1 => if b = true then R f ρ1 w1 Q else R g ρ1 w1 Q := by
  unfold ifM
  simp
@[simp] theorem R_nxM {m : M Unit} {Q : Fl → Env → W → Prop} : R (nxM m) ρ w Q ↔ R m ρ w fun _ ρ1 w1 => Q .nx ρ1 w1 := by
  unfold nxM
  simp
@[simp] theorem R_tupM {fs : M (List RV)} {Q : RV → Env → W → Prop} : R (tupM fs) ρ w Q ↔ R fs ρ w fun rs ρ1 w1 => R (escAll rs) ρ1 w1 fun ds ρ2 w2 => Q (.sh (.tup ds)) ρ2 w2 := by
  unfold tupM
  simp
@[simp] theorem R_lstM {fs : M (List RV)} {Q : RV → Env → W → Prop} : R (lstM fs) ρ w Q ↔ R fs ρ w fun rs ρ1 w1 => R (escAll rs) ρ1 w1 fun ds ρ2 w2 => Q (.fr (.lst ds)) ρ2 w2 := by
  unfold lstM
  simp
@[simp] theorem R_callM {den : List D → W → Option (RV × W)} {dd : List D} {fs : M (List RV)} {Q : RV → Env → W → Prop} : R (callM den dd fs) ρ w Q ↔ R fs ρ w fun rs ρ1 w1 => R (escAll rs) ρ1 w1 fun ds ρ2 w2 => Ran (den (ds ++ dd) w2) fun r w' => Q r ρ2 w' := by
  unfold callM
  simp
@[simp] theorem R_andT {Q : Bool → Env → W → Prop} : R (andT ta tb) ρ w Q ↔ R ta ρ w fun b ρ1 w1 => if b = true then R tb ρ1 w1 Q else Q false ρ1 w1 := by
  unfold andT
  simp
@[simp] theorem R_orT {Q : Bool → Env → W → Prop} : R (orT ta tb) ρ w Q ↔ R ta ρ w fun b ρ1 w1 => if b = true then Q true ρ1 w1 else R tb ρ1 w1 Q := by
  unfold orT
  simp
@[simp] theorem R_notT {Q : Bool → Env → W → Prop} : R (notT ta) ρ w Q ↔ R ta ρ w fun b ρ1 w1 => Q (!b) ρ1 w1 := by
  unfold notT
  simp
@[simp] theorem R_pend {fs : M (List RV)} {Q : List RV → Env → W → Prop} : R (pend1 fa fs) ρ w Q ↔ R fa ρ w fun r ρ1 w1 => R (offR r) ρ1 w1 fun r' ρ2 w2 => R fs ρ2 w2 fun rs ρ3 w3 => Q (r' :: rs) ρ3 w3 := by
  unfold pend1
  simp
@[simp] theorem R_parn {Q : Unit → Env → W → Prop} : R (parM [] []) ρ w Q ↔ Q () ρ w := R_pure
@[simp] theorem R_parsh {is : List Nat} {rs : List RV} {Q : Unit → Env → W → Prop} : R (parM (i :: is) (.sh d :: rs)) ρ w Q ↔ R (parM is rs) (ρ.set i (some (.val d))) w Q := by
  show R (bindM (setM i (.val d)) fun _ => parM is rs) ρ w Q ↔ _
  simp
@[simp] theorem R_parfr {is : List Nat} {rs : List RV} {Q : Unit → Env → W → Prop} : R (parM (i :: is) (.fr d :: rs)) ρ w Q ↔ R (parM is rs) (ρ.set i (some (.own d))) w Q := by
  show R (bindM (setM i (.own d)) fun _ => parM is rs) ρ w Q ↔ _
  simp
end
end FD

end sec_EV
section sec_EV2
set_option maxRecDepth 100000
set_option maxHeartbeats 5000000
/-! EV2: more rules for running denotations; texts as lists of code points. -/
namespace FD
open PySem L2
local instance tl1 : Tabl := { T := [] }
section
variable {α β : Type} {f : M α} {ρ : Env} {w : W} {d d1 d2 : D} {i : Nat} {r r1 r2 : RV} {fa fb fo fe : M RV} {ta tb : M Bool}
theorem R_escow {Q : D → Env → W → Prop} (h : ρ[i]? = some (some (.own d))) : R (escR (.ow i)) ρ w Q ↔ Q d (ρ.set i (some (.val d))) w := R_some (by unfold escR; simp [h])
@[simp] theorem R_strM {g : Str → D → Option RV} {Q : RV → Env → W → Prop} : R (strM g fo fe) ρ w Q ↔ R fo ρ w fun r ρ1 w1 => ∃ s, r = .sh (.str s) ∧ R fe ρ1 w1 fun r2 ρ2 w2 => R (lift1 (g s) r2) ρ2 w2 Q := by
  unfold strM
  rw [R_bind]
  constructor
  · rintro ⟨r, ρ1, w1, e1, q⟩
    refine ⟨r, ρ1, w1, e1, ?_⟩
    split at q
    · exact ⟨_, rfl, R_bind.mp q⟩
    · obtain ⟨_, _, _, e, _⟩ := q
      cases e
  · rintro ⟨r, ρ1, w1, e1, s, rfl, q⟩
    exact ⟨_, ρ1, w1, e1, R_bind.mpr q⟩
@[simp] theorem R_ssetM {Q : RV → Env → W → Prop} : R (ssetM fa) ρ w Q ↔ R fa ρ w fun r ρ1 w1 => ∃ x : Str, r = .sh (.str x) ∧ x.cps.size < 4000 ∧ Q (.fr (.lst ((ST.sset x).map D.str))) ρ1 w1 := by
  unfold ssetM
  rw [R_bind]
  constructor
  · rintro ⟨r, ρ1, w1, e1, q⟩
    refine ⟨r, ρ1, w1, e1, ?_⟩
    split at q
    · split at q
      · exact ⟨_, rfl, by assumption, R_pure.mp q⟩
      · obtain ⟨_, _, _, e, _⟩ := q
        cases e
    · obtain ⟨_, _, _, e, _⟩ := q
      cases e
  · rintro ⟨r, ρ1, w1, e1, x, rfl, h, q⟩
    refine ⟨_, ρ1, w1, e1, ?_⟩
    simp only [h, if_true]
    exact R_pure.mpr q
@[simp] theorem R_andM {Q : RV → Env → W → Prop} : R (andM fa fb) ρ w Q ↔ R (boolM fa) ρ w fun b ρ1 w1 => if b = true then R fb ρ1 w1 Q else Q (.sh (.bl false)) ρ1 w1 := by
  unfold andM
  simp
@[simp] theorem R_orM {Q : RV → Env → W → Prop} : R (orM fa fb) ρ w Q ↔ R (boolM fa) ρ w fun b ρ1 w1 => if b = true then Q (.sh (.bl true)) ρ1 w1 else R fb ρ1 w1 Q := by
  unfold orM
  simp
@[simp] theorem R_notM {Q : RV → Env → W → Prop} : R (notM fa) ρ w Q ↔ R (boolM fa) ρ w fun b ρ1 w1 => Q (.sh (.bl (!b))) ρ1 w1 := by
  unfold notM
  simp
@[simp] theorem R_isiM {bt : String → Bool} {ic : List (Str × Bool)} {Q : RV → Env → W → Prop} : R (isiM bt ic fa) ρ w Q ↔ R fa ρ w fun r ρ1 w1 => R (lift1 (fun d => (isiD bt ic d).map fun b => .sh (.bl b)) r) ρ1 w1 Q := by
  unfold isiM
  exact R_op1
@[simp] theorem R_sortM {srt : List Str → List Str} {Q : RV → Env → W → Prop} : R (sortM srt fa) ρ w Q ↔ R fa ρ w fun r ρ1 w1 => R (lift1 (fun d => match textsD d with
  | some xs => if xs.all (fun x => decide (x.length ≤ 1000000)) = true then some (.fr (.lst ((srt xs).map D.str))) else none
  | none => none) r) ρ1 w1 Q := by
  unfold sortM
  exact R_bind
theorem R_lcM {fi : M (List D)} {vs : List Nat} {asg : D → M Unit} {test : M Bool} {elt : M RV} {Q : RV → Env → W → Prop} : R (lcM fi vs asg test elt) ρ w Q ↔ R fi ρ w fun ds ρ1 w1 => (noOwn ρ1 vs = true ∧ ds.length ≤ 1000000) ∧ R (lcL vs asg test elt ds) (wipeE ρ1 vs) w1 fun ys ρ2 w2 => Q (.fr (.lst ys)) (restE ρ1 ρ2 vs) w2 := by
  unfold lcM
  rw [R_bind]
  constructor
  · rintro ⟨ds, ρ1, w1, e1, r, ρ2, w2, e2, q⟩
    refine ⟨ds, ρ1, w1, e1, ?_⟩
    dsimp only at e2
    split at e2
    · rename_i hc
      refine ⟨hc, ?_⟩
      split at e2
      · rename_i e3
        cases e2
        exact ⟨_, _, _, e3, q⟩
      · cases e2
    · cases e2
  · rintro ⟨ds, ρ1, w1, e1, hc, ys, ρ2, w2, e2, q⟩
    refine ⟨ds, ρ1, w1, e1, ⟨_, _, _, ?_, q⟩⟩
    simp [hc, e2]
@[simp] theorem R_lcTurn {asg : D → M Unit} {test : M Bool} {elt : M RV} {Q : Option D → Env → W → Prop} : R (lcTurn asg test elt d) ρ w Q ↔ R (asg d) ρ w fun _ ρ1 w1 => R test ρ1 w1 fun b ρ2 w2 => if b = true then R elt ρ2 w2 fun r ρ3 w3 => R (escR r) ρ3 w3 fun y ρ4 w4 => Q (some y) ρ4 w4 else Q none ρ2 w2 := by
  unfold lcTurn
  simp
theorem R_range {n : Int} {Q : List D → Env → W → Prop} {rs : List RV} (h : peeks ρ w rs = some [.int n]) (h1 : -1000000 ≤ n ∧ n ≤ 1000000) : R (rangeM rs) ρ w Q ↔ Q ((List.range n.toNat).map fun (i : Nat) => D.int (i : Int)) ρ w := R_some (by unfold rangeM; simp [h, h1])
@[simp] theorem R_enumM {Q : List D → Env → W → Prop} : R (enumM fe) ρ w Q ↔ R fe ρ w fun r ρ1 w1 => R (escR r) ρ1 w1 fun d ρ2 w2 => ∃ ds, seqD d = some ds ∧ Q (numD 0 ds) ρ2 w2 := by
  unfold enumM
  simp only [R_bind]
  constructor
  · intro h
    refine h.mono fun r ρ1 w1 h => h.mono fun d ρ2 w2 h => ?_
    obtain ⟨a, ρ3, w3, e, q⟩ := h
    split at e
    · rename_i e'
      cases e
      exact ⟨_, e', q⟩
    · cases e
  · intro h
    refine h.mono fun r ρ1 w1 h => h.mono fun d ρ2 w2 h => ?_
    obtain ⟨ds, e, q⟩ := h
    exact ⟨_, _, _, by simp [e], q⟩
theorem R_app {Q : RV → Env → W → Prop} {i : Nat} {ds0 : List D} (h0 : ownL ρ i = some ds0) (h : R fe ρ w fun r ρ1 w1 => R (escR r) ρ1 w1 fun d ρ2 w2 => ∃ ds, ownL ρ2 i = some ds ∧ ds.length < 1000000 ∧ Q (.sh .non) (ρ2.set i (some (.own (.lst (ds ++ [d]))))) w2) : R (appM i fe) ρ w Q := by
  obtain ⟨r, ρ1, w1, e1, d, ρ2, w2, e2, ds, e3, hl, q⟩ := h
  refine ⟨_, _, _, ?_, q⟩
  unfold appM
  simp [h0, bindM, e1, e2, e3, hl]
theorem R_pop {Q : RV → Env → W → Prop} {i : Nat} {ds0 : List D} (h0 : ownL ρ i = some ds0) (h : R fe ρ w fun r ρ1 w1 => ∃ k ds d, r = .sh (.int k) ∧ ownL ρ1 i = some ds ∧ (0 ≤ k ∧ k < ds.length ∧ ds.length < 1000000) ∧ ds[k.toNat]? = some d ∧ Q (.sh d) (ρ1.set i (some (.own (.lst (ds.eraseIdx k.toNat))))) w1) : R (popM i fe) ρ w Q := by
  obtain ⟨r, ρ1, w1, e1, k, ds, d, rfl, e3, hl, e4, q⟩ := h
  refine ⟨_, _, _, ?_, q⟩
  unfold popM
  have e5 := (List.getElem?_eq_some_iff.mp e4).2
  simp [h0, bindM, e1, e3, hl, e5]
@[simp] theorem R_partM {Q : Option Int → Env → W → Prop} : R (partM fa) ρ w Q ↔ R fa ρ w fun r ρ1 w1 => ∃ i, r = .sh (.int i) ∧ Q (some i) ρ1 w1 := by
  unfold partM
  rw [R_bind]
  constructor
  · intro h
    refine h.mono fun r ρ1 w1 h => ?_
    obtain ⟨a, ρ3, w3, e, q⟩ := h
    split at e
    · rename_i e'
      cases e
      unfold asI at e'
      split at e'
      · cases e'
        exact ⟨_, rfl, q⟩
      · cases e'
    · cases e
  · intro h
    refine h.mono fun r ρ1 w1 h => ?_
    obtain ⟨i, rfl, q⟩ := h
    exact ⟨_, _, _, rfl, q⟩
@[simp] theorem R_slM {fl fh : M (Option Int)} {Q : RV → Env → W → Prop} : R (slM fa fl fh) ρ w Q ↔ R fa ρ w fun r1 ρ1 w1 => R fl ρ1 w1 fun lo ρ2 w2 => R fh ρ2 w2 fun hi ρ3 w3 => R (lift1 (fun d => slD d lo hi) r1) ρ3 w3 Q := by
  unfold slM
  simp
theorem R_while {t : M Bool} {body : M Fl} {Q : Fl → Env → W → Prop} (Inv : Nat → Env → W → Prop) (step : ∀ k ρ w, Inv k ρ w → R t ρ w fun b ρ1 w1 => if b = true then R body ρ1 w1 fun fl ρ2 w2 => match fl with
    | .nx => ∃ k', k' < k ∧ Inv k' ρ2 w2
    | .ct => ∃ k', k' < k ∧ Inv k' ρ2 w2
    | .bk => Q .nx ρ2 w2
    | .ret r => Q (.ret r) ρ2 w2 else Q .nx ρ1 w1) : ∀ (n k : Nat) (ρ : Env) (w : W), k < n → Inv k ρ w → R (whileM t body n) ρ w Q
  | 0, k, ρ, w, hk, h => absurd hk (by omega)
  | n + 1, k, ρ, w, hk, h => by
    unfold whileM
    rw [R_bind]
    refine (step k ρ w h).mono fun b ρ1 w1 q => ?_
    cases b with
    | false => exact R_pure.mpr q
    | true =>
      simp only [if_true] at q ⊢
      rw [R_bind]
      refine q.mono fun fl ρ2 w2 q => ?_
      cases fl with
      | nx =>
        obtain ⟨k', h', q⟩ := q
        exact R_while Inv step n k' ρ2 w2 (by omega) q
      | ct =>
        obtain ⟨k', h', q⟩ := q
        exact R_while Inv step n k' ρ2 w2 (by omega) q
      | bk => exact R_pure.mpr q
      | ret r => exact R_pure.mpr q
@[simp] theorem R_gTup {g : List D → M Unit} {ds : List D} {Q : Unit → Env → W → Prop} : R (gTupM g (.tup ds)) ρ w Q ↔ R (g ds) ρ w Q := Iff.rfl
@[simp] theorem R_gCons {g : D → M Unit} {h : List D → M Unit} {ds : List D} {Q : Unit → Env → W → Prop} : R (gConsM g h (d :: ds)) ρ w Q ↔ R (g d) ρ w fun _ ρ1 w1 => R (h ds) ρ1 w1 Q := R_bind
@[simp] theorem R_gNil {Q : Unit → Env → W → Prop} : R (gNilM []) ρ w Q ↔ Q () ρ w := R_pure
@[simp] theorem R_makM {cn : Str} {den : List D → W → Option (List (Str × D) × W)} {dd : List D} {fs : M (List RV)} {Q : RV → Env → W → Prop} : R (makM cn den dd fs) ρ w Q ↔ R fs ρ w fun rs ρ1 w1 => R (escAll rs) ρ1 w1 fun ds ρ2 w2 => Ran (den (ds ++ dd) w2) fun gs w' => Q (.sh (.ins cn gs)) ρ2 w' := by
  unfold makM
  simp only [R_bind]
  constructor
  · intro h
    refine h.mono fun r ρ1 w1 h => h.mono fun d ρ2 w2 h => ?_
    obtain ⟨a, ρ3, w3, e, q⟩ := h
    dsimp only at e
    split at e
    · rename_i e'
      cases e
      exact ⟨_, _, e', q⟩
    · cases e
  · intro h
    refine h.mono fun r ρ1 w1 h => h.mono fun d ρ2 w2 h => ?_
    obtain ⟨gs, w', e, q⟩ := h
    exact ⟨_, _, _, by simp [e], q⟩
theorem R_self {cn m : Str} {gs : List (Str × D)} {Q : D → Env → W → Prop} (h : gs.lookup m = none) : R (selfR cn m (.sh (.ins cn gs))) ρ w Q ↔ Q (.ins cn gs) ρ w := R_some (by simp [selfR, selfI, bindM, escR, pureM, h])
@[simp] theorem R_methM {cn m : Str} {den : List D → W → Option (RV × W)} {dd : List D} {fs : M (List RV)} {Q : RV → Env → W → Prop} : R (methM cn m den dd fo fs) ρ w Q ↔ R fo ρ w fun r ρ1 w1 => R (selfR cn m r) ρ1 w1 fun d ρ2 w2 => R fs ρ2 w2 fun rs ρ3 w3 => R (escAll rs) ρ3 w3 fun ds ρ4 w4 => Ran (den (d :: (ds ++ dd)) w4) fun r w' => Q r ρ4 w' := by
  unfold methM
  simp
theorem R_eqO {cn : Str} {ic : List (Str × Bool)} {den : List D → W → Option (RV × W)} {ne : Bool} {Q : RV → Env → W → Prop} (h : R fa ρ w fun r1 ρ1 w1 => R fb ρ1 w1 fun r2 ρ2 w2 => R (escR r1) ρ2 w2 fun d1 ρ3 w3 => R (escR r2) ρ3 w3 fun d2 ρ4 w4 => ∃ gs, d1 = .ins cn gs ∧ isiD (fun _ => true) ic d2 = some true ∧ Ran (den [.ins cn gs, d2] w4) fun r w' => ∃ b, r = .sh (.bl b) ∧ Q (.sh (.bl (if ne then !b else b))) ρ4 w') : R (eqOM cn ic den ne fa fb) ρ w Q := by
  obtain ⟨r1, ρ1, w1, e1, r2, ρ2, w2, e2, d1, ρ3, w3, e3, d2, ρ4, w4, e4, gs, rfl, hi, r, w', hd, b, rfl, q⟩ := h
  refine ⟨_, _, _, ?_, q⟩
  unfold eqOM
  simp [bindM, e1, e2, e3, e4, escAll, hi, hd, runD, pureM]
end
/-! texts -/
abbrev st (l : List Nat) : Str := ⟨l.toArray⟩
abbrev S (l : List Nat) : D := .str (st l)
def CpOk (l : List Nat) : Prop := ∀ c ∈ l, c < 0x110000
theorem st_inj {l m : List Nat} : st l = st m ↔ l = m := ⟨fun h => by
  have := congrArg (fun x : Str => x.cps.toList) h
  simpa using this, fun h => h ▸ rfl⟩
theorem st_app (l m : List Nat) : st l ++ st m = st (l ++ m) := by
  show Str.append _ _ = _
  simp [Str.append]
theorem st_len (l : List Nat) : (st l).length = l.length := by simp [Str.length]
end FD

end sec_EV2
section sec_EV3
set_option maxRecDepth 100000
set_option maxHeartbeats 5000000
/-! EV3: plain operations on texts and lists of texts. -/
namespace FD
open PySem L2
local instance tl2 : Tabl := { T := [] }
theorem eqv_refl_str (l m : List Nat) : PyData.eqv (.str (st l)) (.str (st m)) = decide (l = m) := by
  show (st l == st m) = decide (l = m)
  by_cases h : l = m
  · subst h
    simp
  · have : ¬ st l = st m := fun e => h (st_inj.mp e)
    simp [h, this]
theorem shaped_str {l : List Nat} (h : CpOk l) : SeqAt.shaped (.str (st l)) = true := by
  simp [SeqAt.shaped, PyData.canLay0, PyData.depth, PyData.strOk]
  exact h
theorem cmp_S {l m : List Nat} (h : CpOk l) (k : CpOk m) : cmpD (S l) (S m) = some (decide (l = m)) := by
  simp [cmpD, toPy, shaped_str h, shaped_str k, eqv_refl_str]
theorem eqD_S {l m : List Nat} (h : CpOk l) (k : CpOk m) : eqD (S l) (S m) = some (.sh (.bl (decide (l = m)))) := by
  simp [eqD, cmp_S h k]
theorem neD_S {l m : List Nat} (h : CpOk l) (k : CpOk m) : neD (S l) (S m) = some (.sh (.bl (!decide (l = m)))) := by
  simp [neD, cmp_S h k]
theorem addD_S {l m : List Nat} (h : l.length + m.length ≤ 1000000) : addD (S l) (S m) = some (.sh (S (l ++ m))) := by
  simp only [addD, st_len, h, if_true, st_app]
theorem inS_S {c : Nat} {l : List Nat} {no : Bool} : inS no (S [c]) (S l) = some (.sh (.bl (if no then !decide (c ∈ l) else decide (c ∈ l)))) := by
  simp [inS]
theorem iterD_S {l : List Nat} : iterD (S l) = some (l.map fun c => S [c]) := rfl
theorem lenD_S {l : List Nat} (h : l.length ≤ 1000000) : lenD [S l] = some (.sh (.int l.length)) := by
  simp [lenD, st_len, h]
theorem sset_S (l : List Nat) : (ST.sset (st l)).map D.str = (ST.setN l).map fun c => S [c] := by
  simp [ST.sset, ST.sg1]
theorem asStrs_S (xs : List (List Nat)) : asStrs (xs.map S) = some (xs.map st) := by
  have := asStrs_map (xs.map st)
  rw [List.map_map] at this
  exact this
theorem lens (xs : List (List Nat)) : ((xs.map st).map (·.length)).sum = xs.flatten.length := by
  rw [List.length_flatten, List.map_map]
  congr 1
theorem join_st : ∀ (xs : List (List Nat)), Txt.join (st []) (xs.map st) = st xs.flatten := by
  have key : ∀ (xs : List (List Nat)) (acc : Array Nat), (xs.map st).foldl (fun acc p => acc ++ (st []).cps ++ p.cps) acc = acc ++ xs.flatten.toArray := by
    intro xs
    induction xs with
    | nil => intro acc; simp
    | cons x xs ih =>
      intro acc
      rw [List.map_cons, List.foldl_cons, ih]
      simp
  intro xs
  cases xs with
  | nil => rfl
  | cons x xs =>
    show (⟨(xs.map st).foldl (fun acc p => acc ++ (st []).cps ++ p.cps) (st x).cps⟩ : Str) = _
    rw [key]
    simp
theorem joinD_S {xs : List (List Nat)} (h : xs.flatten.length ≤ 1000000) : joinD (st []) (.lst (xs.map S)) = some (.sh (S xs.flatten)) := by
  have e : (st []).length = 0 := rfl
  simp only [joinD, asStrs_S, lens, e, Nat.mul_zero, Nat.add_zero, h, if_true, join_st]
end FD

end sec_EV3
section sec_EV4
set_option maxRecDepth 100000
set_option maxHeartbeats 5000000
/-! EV4: rules for loops by plain lists; equations for defs. -/
namespace FD
open PySem L2
local instance tl4 : Tabl := { T := [] }
section
variable {α : Type} {ρ : Env} {w : W}
/-- a def that gives one value and leaves the draws -/
theorem D_eq {n : Nat} {body : M Fl} {ds : List D} {r0 : RV} {w0 : W} (h : R body (startE n ds) w fun fl ρ' w' => w' = w0 ∧ match fl with | .ret r => outR ρ' r = some r0 | .nx => r0 = .sh .non | _ => False) : denB n body ds w = some (r0, w0) := by
  obtain ⟨r, w', e, h1, h2⟩ := D_run (Q := fun r w' => r = r0 ∧ w' = w0) (h.mono fun fl ρ' w' q => ⟨r0, by cases fl <;> exact q.2, rfl, q.1⟩)
  rw [e, h1, h2]
theorem R_lcLm {vs : List Nat} {asg : D → M Unit} {test : M Bool} {elt : M RV} {Q : List D → Env → W → Prop} (emb : α → D) (g : α → Option D) (l : List α) (h : ∀ a ∈ l, R (lcTurn asg test elt (emb a)) ρ w fun y ρ' w' => y = g a ∧ wipeE ρ' vs = ρ ∧ w' = w) (q : Q (l.filterMap g) ρ w) : R (lcL vs asg test elt (l.map emb)) ρ w Q := by
  have key : ∀ (l : List α), (∀ d ∈ l, R (lcTurn asg test elt (emb d)) ρ w fun y ρ' w' => y = g d ∧ wipeE ρ' vs = ρ ∧ w' = w) → lcL vs asg test elt (l.map emb) ρ w = some (l.filterMap g, ρ, w) := by
    intro ds
    induction ds with
    | nil => intro _; rfl
    | cons d ds ih =>
      intro h
      obtain ⟨y, ρ1, w1, e1, rfl, e2, rfl⟩ := h d List.mem_cons_self
      have e3 := ih fun d' h' => h d' (List.mem_cons_of_mem _ h')
      rw [List.map_cons]
      unfold lcL bindM
      rw [e1]
      simp only [wipeM, e2, e3, pureM]
      cases e : g d <;> simp [List.filterMap_cons, e]
  exact ⟨_, _, _, key l h, q⟩
theorem filterMap_some {β : Type} (f : α → β) (l : List α) : l.filterMap (fun a => some (f a)) = l.map f := by
  induction l with
  | nil => rfl
  | cons a l ih => simp
theorem filterMap_if {β : Type} (p : α → Bool) (f : α → β) (l : List α) : l.filterMap (fun a => if p a = true then some (f a) else none) = (l.filter p).map f := by
  induction l with
  | nil => rfl
  | cons a l ih =>
    by_cases h : p a = true
    · simp [h, ih]
    · simp [h, ih]
/-- all are taken -/
theorem R_lcMap {vs : List Nat} {asg : D → M Unit} {test : M Bool} {elt : M RV} {Q : List D → Env → W → Prop} (emb : α → D) (f : α → D) (l : List α) (h : ∀ a ∈ l, R (lcTurn asg test elt (emb a)) ρ w fun y ρ' w' => y = some (f a) ∧ wipeE ρ' vs = ρ ∧ w' = w) (q : Q (l.map f) ρ w) : R (lcL vs asg test elt (l.map emb)) ρ w Q :=
  R_lcLm emb (fun a => some (f a)) l h (by rw [filterMap_some]; exact q)
/-- some are taken -/
theorem R_lcFil {vs : List Nat} {asg : D → M Unit} {test : M Bool} {elt : M RV} {Q : List D → Env → W → Prop} (emb : α → D) (p : α → Bool) (f : α → D) (l : List α) (h : ∀ a ∈ l, R (lcTurn asg test elt (emb a)) ρ w fun y ρ' w' => y = (if p a = true then some (f a) else none) ∧ wipeE ρ' vs = ρ ∧ w' = w) (q : Q ((l.filter p).map f) ρ w) : R (lcL vs asg test elt (l.map emb)) ρ w Q :=
  R_lcLm emb (fun a => if p a = true then some (f a) else none) l h (by rw [filterMap_if]; exact q)
/-- turns that draw: Inv of what is left, of what is there, of the draws -/
theorem R_lcInv {vs : List Nat} {asg : D → M Unit} {test : M Bool} {elt : M RV} {Q : List D → Env → W → Prop} (emb : α → D) (Inv : List α → List D → W → Prop) (step : ∀ a l acc w, Inv (a :: l) acc w → R (lcTurn asg test elt (emb a)) ρ w fun y ρ' w' => wipeE ρ' vs = ρ ∧ Inv l (acc ++ y.toList) w') (fin : ∀ acc w, Inv [] acc w → Q acc ρ w) (l : List α) (h : Inv l [] w) : R (lcL vs asg test elt (l.map emb)) ρ w Q := by
  have key : ∀ (l : List α) (acc : List D) (w : W), Inv l acc w → ∃ ys w', lcL vs asg test elt (l.map emb) ρ w = some (ys, ρ, w') ∧ Inv [] (acc ++ ys) w' := by
    intro l
    induction l with
    | nil => intro acc w h; exact ⟨[], w, rfl, by simpa using h⟩
    | cons a l ih =>
      intro acc w h
      obtain ⟨y, ρ1, w1, e1, e2, h2⟩ := step a l acc w h
      obtain ⟨ys, w', e3, h3⟩ := ih _ _ h2
      refine ⟨y.toList ++ ys, w', ?_, by simpa using h3⟩
      rw [List.map_cons]
      unfold lcL bindM
      rw [e1]
      simp only [wipeM, e2, e3, pureM]
  obtain ⟨ys, w', e, h'⟩ := key l [] w h
  exact ⟨_, _, _, e, fin _ _ (by simpa using h')⟩
theorem R_forLm {g : D → M Unit} {body : M Fl} {Q : Fl → Env → W → Prop} (emb : α → D) (Inv : List α → Env → W → Prop) (step : ∀ d ds ρ w, Inv (d :: ds) ρ w → R (g (emb d)) ρ w fun _ ρ1 w1 => R body ρ1 w1 fun fl ρ2 w2 => match fl with
    | .nx => Inv ds ρ2 w2
    | .ct => Inv ds ρ2 w2
    | .bk => Q .nx ρ2 w2
    | .ret r => Q (.ret r) ρ2 w2) (fin : ∀ ρ w, Inv [] ρ w → Q .nx ρ w) (ds : List α) (ρ : Env) (w : W) (h : Inv ds ρ w) : R (forL g body (ds.map emb)) ρ w Q := by
  refine R_forL (fun l ρ w => ∃ ds, l = ds.map emb ∧ Inv ds ρ w) ?_ ?_ _ _ _ ⟨ds, rfl, h⟩
  · rintro d l ρ w ⟨ds, e, h⟩
    cases ds with
    | nil => cases e
    | cons a ds =>
      cases e
      refine (step a ds ρ w h).mono fun _ ρ1 w1 h => h.mono fun fl ρ2 w2 h => ?_
      cases fl with
      | nx => exact ⟨ds, rfl, h⟩
      | ct => exact ⟨ds, rfl, h⟩
      | bk => exact h
      | ret r => exact h
  · rintro ρ w ⟨ds, e, h⟩
    cases ds with
    | nil => exact fin ρ w h
    | cons a ds => cases e
theorem R_while2 {t : M Bool} {body : M Fl} {Q : Fl → Env → W → Prop} (Inv B : Nat → Env → W → Prop) (test : ∀ k ρ w, Inv k ρ w → R t ρ w fun b ρ1 w1 => if b = true then B k ρ1 w1 else Q .nx ρ1 w1) (step : ∀ k ρ w, B k ρ w → R body ρ w fun fl ρ2 w2 => match fl with
    | .nx => ∃ k', k' < k ∧ Inv k' ρ2 w2
    | .ct => ∃ k', k' < k ∧ Inv k' ρ2 w2
    | .bk => Q .nx ρ2 w2
    | .ret r => Q (.ret r) ρ2 w2) (n k : Nat) (ρ : Env) (w : W) (hk : k < n) (h : Inv k ρ w) : R (whileM t body n) ρ w Q := by
  refine R_while Inv (fun k ρ w h => (test k ρ w h).mono fun b ρ1 w1 q => ?_) n k ρ w hk h
  cases b with
  | true => exact step k ρ1 w1 q
  | false => exact q
@[simp] theorem R_iterM {r : RV} {Q : List D → Env → W → Prop} : R (iterM r) ρ w Q ↔ R (escR r) ρ w fun d ρ' w' => ∃ ds, iterD d = some ds ∧ Q ds ρ' w' := by
  unfold iterM
  rw [R_bind]
  constructor
  · intro h
    refine h.mono fun d ρ' w' h => ?_
    obtain ⟨a, ρ2, w2, e, q⟩ := h
    split at e
    · rename_i e2
      cases e
      exact ⟨_, e2, q⟩
    · cases e
  · intro h
    refine h.mono fun d ρ' w' h => ?_
    obtain ⟨ds, e, q⟩ := h
    exact ⟨ds, ρ', w', by simp [e], q⟩
theorem R_lift1g {g : D → Option RV} {r1 : RV} {Q : RV → Env → W → Prop} : R (lift1 g r1) ρ w Q ↔ ∃ d1, peek ρ w r1 = some d1 ∧ ∃ r, g d1 = some r ∧ Q r ρ w := by
  constructor
  · rintro ⟨a, ρ', w', e, q⟩
    obtain ⟨d1, r, p1, eg, ez⟩ := lift1_some e
    cases ez
    exact ⟨d1, p1, _, eg, q⟩
  · rintro ⟨d1, p1, r, eg, q⟩
    exact (R_lift1' p1).mpr ⟨r, eg, q⟩
theorem R_lift2g {g : D → D → Option RV} {r1 r2 : RV} {Q : RV → Env → W → Prop} : R (lift2 g r1 r2) ρ w Q ↔ ∃ d1, peek ρ w r1 = some d1 ∧ ∃ d2, peek ρ w r2 = some d2 ∧ ∃ r, g d1 d2 = some r ∧ Q r ρ w := by
  constructor
  · rintro ⟨a, ρ', w', e, q⟩
    obtain ⟨d1, d2, r, p1, p2, eg, ez⟩ := lift2_some e
    cases ez
    exact ⟨d1, p1, d2, p2, _, eg, q⟩
  · rintro ⟨d1, p1, d2, p2, r, eg, q⟩
    exact (R_lift2' p1 p2).mpr ⟨r, eg, q⟩
theorem R_liftNg {g : List D → Option RV} {rs : List RV} {Q : RV → Env → W → Prop} : R (liftN g rs) ρ w Q ↔ ∃ ds, peeks ρ w rs = some ds ∧ ∃ r, g ds = some r ∧ Q r ρ w := by
  constructor
  · rintro ⟨a, ρ', w', e, q⟩
    obtain ⟨ds, r, p1, eg, ez⟩ := liftN_some e
    cases ez
    exact ⟨ds, p1, _, eg, q⟩
  · rintro ⟨ds, p1, r, eg, q⟩
    exact (R_liftN p1).mpr ⟨r, eg, q⟩
def PopQ (i : Nat) (Q : RV → Env → W → Prop) (r : RV) (ρ1 : Env) (w1 : W) : Prop := ∃ k ds d, r = .sh (.int k) ∧ ownL ρ1 i = some ds ∧ (0 ≤ k ∧ k < ds.length ∧ ds.length < 1000000) ∧ ds[k.toNat]? = some d ∧ Q (.sh d) (ρ1.set i (some (.own (.lst (ds.eraseIdx k.toNat))))) w1
theorem R_popQ {fe : M RV} {i : Nat} {Q : RV → Env → W → Prop} {ds0 : List D} (h0 : ownL ρ i = some ds0) (h : R fe ρ w (PopQ i Q)) : R (popM i fe) ρ w Q := R_pop h0 h
theorem PopQ.mk {i : Nat} {Q : RV → Env → W → Prop} {k : Nat} {ds : List D} (e : ownL ρ i = some ds) (h : k < ds.length) (h2 : ds.length < 1000000) (q : Q (.sh ds[k]) (ρ.set i (some (.own (.lst (ds.eraseIdx k))))) w) : PopQ i Q (.sh (.int (k : Int))) ρ w :=
  ⟨k, ds, ds[k], rfl, e, ⟨by omega, by omega, h2⟩, by simp [h], by simpa using q⟩
def AppQ (i : Nat) (Q : RV → Env → W → Prop) (d : D) (ρ2 : Env) (w2 : W) : Prop := ∃ ds, ownL ρ2 i = some ds ∧ ds.length < 1000000 ∧ Q (.sh .non) (ρ2.set i (some (.own (.lst (ds ++ [d]))))) w2
theorem R_appQ {fe : M RV} {i : Nat} {Q : RV → Env → W → Prop} {ds0 : List D} (h0 : ownL ρ i = some ds0) (h : R fe ρ w fun r ρ1 w1 => R (escR r) ρ1 w1 (AppQ i Q)) : R (appM i fe) ρ w Q := R_app h0 h
@[simp] theorem R_eqOM {cn : Str} {ic : List (Str × Bool)} {den : List D → W → Option (RV × W)} {ne : Bool} {fa fb : M RV} {Q : RV → Env → W → Prop} : R (eqOM cn ic den ne fa fb) ρ w Q ↔ R fa ρ w fun r1 ρ1 w1 => R fb ρ1 w1 fun r2 ρ2 w2 => R (escR r1) ρ2 w2 fun d1 ρ3 w3 => R (escR r2) ρ3 w3 fun d2 ρ4 w4 => (∃ gs, d1 = .ins cn gs) ∧ isiD (fun _ => true) ic d2 = some true ∧ Ran (den [d1, d2] w4) fun r w' => ∃ b, r = .sh (.bl b) ∧ Q (.sh (.bl (if ne then !b else b))) ρ4 w' := by
  constructor
  · rintro ⟨a, ρ', w', e, q⟩
    unfold eqOM at e
    obtain ⟨r1, ρ1, w1, e1, f1⟩ := bindM_some e
    obtain ⟨r2, ρ2, w2, e2, f2⟩ := bindM_some f1
    obtain ⟨ds, ρ3, w3, e3, f3⟩ := bindM_some f2
    obtain ⟨d1, ρ4, w4, e4, e5⟩ := bindM_some e3
    obtain ⟨ds', ρ5, w5, e6, e7⟩ := bindM_some e5
    obtain ⟨d2, ρ6, w6, e8, e9⟩ := bindM_some e6
    cases e9
    cases e7
    clear e f1 f2
    refine ⟨r1, ρ1, w1, e1, r2, ρ2, w2, e2, d1, ρ4, w4, e4, d2, _, _, e8, ?_⟩
    cases d1 with
    | ins c' gs =>
      dsimp only at f3
      by_cases hc : c' = cn ∧ isiD (fun _ => true) ic d2 = some true
      · rw [if_pos hc] at f3
        obtain ⟨rfl, hi⟩ := hc
        obtain ⟨r, ρ7, w7, e10, e11⟩ := bindM_some f3
        obtain ⟨r', w8, e12, ez⟩ := runD_some e10
        cases ez
        refine ⟨⟨gs, rfl⟩, hi, _, _, e12, ?_⟩
        split at e11
        · cases e11
          exact ⟨_, rfl, q⟩
        · cases e11
      · rw [if_neg hc] at f3
        cases f3
    | _ => cases f3
  · rintro ⟨r1, ρ1, w1, e1, r2, ρ2, w2, e2, d1, ρ3, w3, e3, d2, ρ4, w4, e4, ⟨gs, rfl⟩, hi, r, w', e5, b, rfl, q⟩
    exact R_eqO ⟨r1, ρ1, w1, e1, r2, ρ2, w2, e2, _, ρ3, w3, e3, d2, ρ4, w4, e4, gs, rfl, hi, _, w', e5, b, rfl, q⟩
theorem R_then {f g : M Fl} {Q : Fl → Env → W → Prop} (P : Env → W → Prop) (h : R f ρ w fun fl ρ' w' => fl = .nx ∧ P ρ' w') (k : ∀ ρ' w', P ρ' w' → R g ρ' w' Q) : R (seqM f g) ρ w Q := by
  rw [R_seq]
  refine h.mono fun fl ρ' w' hp => ?_
  obtain ⟨rfl, hp⟩ := hp
  exact k ρ' w' hp
end
theorem allD_bl (bs : List Bool) : allD [.lst (bs.map D.bl)] = some (.sh (.bl (bs.all id))) := by
  show Option.map _ (asBls _) = _
  rw [asBls_map]
  rfl
theorem allD_map {α : Type} (f : α → Bool) (l : List α) : allD [.lst (l.map fun a => D.bl (f a))] = some (.sh (.bl (l.all f))) := by
  have e : (l.map fun a => D.bl (f a)) = (l.map f).map D.bl := by simp
  rw [e, allD_bl]
  simp
theorem atI_nat {α : Type} (xs : List α) (i : Nat) (h : i < xs.length) : L2.atI xs (i : Int) = some xs[i] := by
  unfold L2.atI L2.ixN
  simp [h]
end FD

end sec_EV4
section sec_EQ
set_option maxRecDepth 100000
set_option maxHeartbeats 5000000
/-! EQ: == of data without truth values is equality. -/
namespace FD
open PySem L2
local instance tl7 : Tabl := { T := [] }
/-- data without truth values, at most so deep -/
def NB : Nat → D → Prop
  | _, .non => True
  | _, .int _ => True
  | _, .str x => ∀ c ∈ x.cps.toList, c < 0x110000
  | n + 1, .tup ds => ∀ d ∈ ds, NB n d
  | n + 1, .lst ds => ∀ d ∈ ds, NB n d
  | _, _ => False
theorem NB.up : ∀ {n : Nat} {d : D}, NB n d → NB (n + 1) d
  | 0, .non, _ => by simp [NB]
  | 0, .int _, _ => by simp [NB]
  | 0, .str _, h => by simpa [NB] using h
  | 0, .tup _, h => by simp [NB] at h
  | 0, .lst _, h => by simp [NB] at h
  | n + 1, .non, _ => by simp [NB]
  | n + 1, .int _, _ => by simp [NB]
  | n + 1, .str _, h => by simpa [NB] using h
  | n + 1, .tup ds, h => by
    have h : ∀ d ∈ ds, NB n d := h
    show ∀ d ∈ ds, NB (n + 1) d
    exact fun d hd => (h d hd).up
  | n + 1, .lst ds, h => by
    have h : ∀ d ∈ ds, NB n d := h
    show ∀ d ∈ ds, NB (n + 1) d
    exact fun d hd => (h d hd).up
theorem NB.mono {n m : Nat} {d : D} (h : NB n d) (hm : n ≤ m) : NB m d := by
  induction hm with
  | refl => exact h
  | step _ ih => exact ih.up
theorem toPys_of {n : Nat} {ds : List D} (h : ∀ d ∈ ds, ∃ p, toPy d = some p ∧ p.canLay0 = true ∧ p.depth ≤ n) : ∃ ps, toPys ds = some ps ∧ PyData.canLayAll0 ps = true ∧ PyData.depthAll ps ≤ n := by
  induction ds with
  | nil => exact ⟨[], by simp [toPys], by simp [PyData.canLayAll0], by simp [PyData.depthAll]⟩
  | cons d ds ih =>
    obtain ⟨ps, e1, e2, e3⟩ := ih fun d hd => h d (List.mem_cons_of_mem _ hd)
    obtain ⟨p, f1, f2, f3⟩ := h d List.mem_cons_self
    refine ⟨p :: ps, by simp [toPys, f1, e1], by simp [PyData.canLayAll0, f2, e2], ?_⟩
    simp only [PyData.depthAll]
    omega
theorem NB.py : ∀ {n : Nat} {d : D}, NB n d → ∃ p, toPy d = some p ∧ p.canLay0 = true ∧ p.depth ≤ n
  | n, .non, _ => ⟨.none, by simp [toPy], by simp [PyData.canLay0], by simp [PyData.depth]⟩
  | n, .int i, _ => ⟨.int i, by simp [toPy], by simp [PyData.canLay0], by simp [PyData.depth]⟩
  | n, .str x, h => ⟨.str x, by simp [toPy], by
      have h : ∀ c ∈ x.cps.toList, c < 0x110000 := by cases n <;> exact h
      simp only [PyData.canLay0, PyData.strOk, Array.all_eq_true', decide_eq_true_eq]
      intro c hc
      exact h c (by simpa using hc), by simp [PyData.depth]⟩
  | n + 1, .tup ds, h => by
    have h : ∀ d ∈ ds, NB n d := h
    obtain ⟨ps, e1, e2, e3⟩ := toPys_of (n := n) fun d hd => (h d hd).py
    exact ⟨.tuple ps, by simp [toPy, e1], by simpa [PyData.canLay0] using e2, by simp [PyData.depth]; omega⟩
  | n + 1, .lst ds, h => by
    have h : ∀ d ∈ ds, NB n d := h
    obtain ⟨ps, e1, e2, e3⟩ := toPys_of (n := n) fun d hd => (h d hd).py
    exact ⟨.list ps, by simp [toPy, e1], by simpa [PyData.canLay0] using e2, by simp [PyData.depth]; omega⟩
  | 0, .tup ds, h => by simp [NB] at h
  | 0, .lst ds, h => by simp [NB] at h
  | 0, .bl _, h => by simp [NB] at h
  | 0, .ty _, h => by simp [NB] at h
  | 0, .draw, h => by simp [NB] at h
  | 0, .dic _, h => by simp [NB] at h
  | 0, .ktup _, h => by simp [NB] at h
  | 0, .dit _, h => by simp [NB] at h
  | 0, .fdit _, h => by simp [NB] at h
  | 0, .ins _ _, h => by simp [NB] at h
  | 0, .scr _, h => by simp [NB] at h
  | 0, .exc _ _, h => by simp [NB] at h
  | 0, .lam _ _, h => by simp [NB] at h
  | 0, .obj _, h => by simp [NB] at h
  | 0, .tok _, h => by simp [NB] at h
  | _ + 1, .obj _, h => by simp [NB] at h
  | _ + 1, .tok _, h => by simp [NB] at h
  | _ + 1, .bl _, h => by simp [NB] at h
  | _ + 1, .exc _ _, h => by simp [NB] at h
  | _ + 1, .lam _ _, h => by simp [NB] at h
  | _ + 1, .ty _, h => by simp [NB] at h
  | _ + 1, .draw, h => by simp [NB] at h
  | _ + 1, .dic _, h => by simp [NB] at h
  | _ + 1, .ktup _, h => by simp [NB] at h
  | _ + 1, .dit _, h => by simp [NB] at h
  | _ + 1, .fdit _, h => by simp [NB] at h
  | _ + 1, .ins _ _, h => by simp [NB] at h
  | _ + 1, .scr _, h => by simp [NB] at h
theorem eqvAll_iff : ∀ {as bs : List D} {ps qs : List PyData}, (∀ a ∈ as, ∀ b ∈ bs, ∀ p q, toPy a = some p → toPy b = some q → (PyData.eqv p q = true ↔ a = b)) → toPys as = some ps → toPys bs = some qs → (PyData.eqvAll ps qs = true ↔ as = bs)
  | [], [], ps, qs, _, e1, e2 => by
    simp [toPys] at e1 e2
    subst e1
    subst e2
    simp [PyData.eqvAll]
  | [], b :: bs, ps, qs, _, e1, e2 => by
    simp only [toPys] at e1 e2
    cases e1
    split at e2
    · cases q : toPys bs with
      | none => rw [q] at e2; cases e2
      | some _ => rw [q] at e2; cases e2; simp [PyData.eqvAll]
    · cases e2
  | a :: as, [], ps, qs, _, e1, e2 => by
    simp only [toPys] at e1 e2
    cases e2
    split at e1
    · cases q : toPys as with
      | none => rw [q] at e1; cases e1
      | some _ => rw [q] at e1; cases e1; simp [PyData.eqvAll]
    · cases e1
  | a :: as, b :: bs, ps, qs, h, e1, e2 => by
    simp only [toPys] at e1 e2
    split at e1
    · rename_i p hp
      cases q1 : toPys as with
      | none => rw [q1] at e1; cases e1
      | some ps' =>
        rw [q1] at e1
        cases e1
        split at e2
        · rename_i q hq
          cases q2 : toPys bs with
          | none => rw [q2] at e2; cases e2
          | some qs' =>
            rw [q2] at e2
            cases e2
            have i1 := h a List.mem_cons_self b List.mem_cons_self p q hp hq
            have i2 := eqvAll_iff (fun a ha b hb => h a (List.mem_cons_of_mem _ ha) b (List.mem_cons_of_mem _ hb)) q1 q2
            simp only [PyData.eqvAll, Bool.and_eq_true, i1, i2, List.cons.injEq]
        · cases e2
    · cases e1
theorem NB.eqv : ∀ {n : Nat} {a b : D} {p q : PyData}, NB n a → NB n b → toPy a = some p → toPy b = some q → (PyData.eqv p q = true ↔ a = b) := by
  intro n
  induction n with
  | zero =>
    intro a b p q ha hb e1 e2
    cases a <;> simp [NB] at ha <;> cases b <;> simp [NB] at hb <;> simp [toPy] at e1 e2 <;> subst e1 <;> subst e2 <;> simp [PyData.eqv]
  | succ n ih =>
    intro a b p q ha hb e1 e2
    have seq : ∀ (as bs : List D) (ps qs : List PyData), (∀ d ∈ as, NB n d) → (∀ d ∈ bs, NB n d) → toPys as = some ps → toPys bs = some qs → (PyData.eqvAll ps qs = true ↔ as = bs) := fun as bs ps qs ha hb e1 e2 => eqvAll_iff (fun x hx y hy p q ep eq => ih (ha x hx) (hb y hy) ep eq) e1 e2
    cases a with
    | tup as =>
      have ha : ∀ d ∈ as, NB n d := ha
      simp only [toPy] at e1
      cases q1 : toPys as with
      | none => rw [q1] at e1; cases e1
      | some ps =>
        rw [q1] at e1
        cases e1
        cases b with
        | tup bs =>
          have hb : ∀ d ∈ bs, NB n d := hb
          simp only [toPy] at e2
          cases q2 : toPys bs with
          | none => rw [q2] at e2; cases e2
          | some qs =>
            rw [q2] at e2
            cases e2
            simp [PyData.eqv, seq as bs ps qs ha hb q1 q2]
        | lst bs =>
          simp only [toPy] at e2
          cases q2 : toPys bs with
          | none => rw [q2] at e2; cases e2
          | some qs => rw [q2] at e2; cases e2; simp [PyData.eqv]
        | _ => simp [NB] at hb <;> simp [toPy] at e2 <;> subst e2 <;> simp [PyData.eqv]
    | lst as =>
      have ha : ∀ d ∈ as, NB n d := ha
      simp only [toPy] at e1
      cases q1 : toPys as with
      | none => rw [q1] at e1; cases e1
      | some ps =>
        rw [q1] at e1
        cases e1
        cases b with
        | lst bs =>
          have hb : ∀ d ∈ bs, NB n d := hb
          simp only [toPy] at e2
          cases q2 : toPys bs with
          | none => rw [q2] at e2; cases e2
          | some qs =>
            rw [q2] at e2
            cases e2
            simp [PyData.eqv, seq as bs ps qs ha hb q1 q2]
        | tup bs =>
          simp only [toPy] at e2
          cases q2 : toPys bs with
          | none => rw [q2] at e2; cases e2
          | some qs => rw [q2] at e2; cases e2; simp [PyData.eqv]
        | _ => simp [NB] at hb <;> simp [toPy] at e2 <;> subst e2 <;> simp [PyData.eqv]
    | _ =>
      simp [NB] at ha <;> simp [toPy] at e1 <;> subst e1 <;> cases b with
      | tup bs =>
        simp only [toPy] at e2
        cases q2 : toPys bs with
        | none => rw [q2] at e2; cases e2
        | some qs => rw [q2] at e2; cases e2; simp [PyData.eqv]
      | lst bs =>
        simp only [toPy] at e2
        cases q2 : toPys bs with
        | none => rw [q2] at e2; cases e2
        | some qs => rw [q2] at e2; cases e2; simp [PyData.eqv]
      | _ => simp [NB] at hb <;> simp [toPy] at e2 <;> subst e2 <;> simp [PyData.eqv]
open Classical in
theorem cmp_NB {a b : D} (ha : NB 64 a) (hb : NB 64 b) : cmpD a b = some (decide (a = b)) := by
  obtain ⟨p, p1, p2, p3⟩ := ha.py
  obtain ⟨q, q1, q2, q3⟩ := hb.py
  have hp : SeqAt.shaped p = true := by simp [SeqAt.shaped, p2, p3]
  have hq : SeqAt.shaped q = true := by simp [SeqAt.shaped, q2, q3]
  unfold cmpD
  simp only [p1, q1, hp, hq, and_self, if_true]
  congr 1
  rw [Bool.eq_iff_iff, ha.eqv hb p1 q1]
  simp
open Classical in
theorem eqD_NB {a b : D} (ha : NB 64 a) (hb : NB 64 b) : eqD a b = some (.sh (.bl (decide (a = b)))) := by
  simp [eqD, cmp_NB ha hb]
open Classical in
theorem neD_NB {a b : D} (ha : NB 64 a) (hb : NB 64 b) : neD a b = some (.sh (.bl (!decide (a = b)))) := by
  simp [neD, cmp_NB ha hb]
theorem NB_S {n : Nat} {l : List Nat} (h : CpOk l) : NB n (S l) := by
  cases n <;> exact h
theorem S_inj {l m : List Nat} : S l = S m ↔ l = m := by
  constructor
  · intro h
    injection h with h
    exact st_inj.mp h
  · intro h; rw [h]
theorem mapS_inj {xs ys : List (List Nat)} : xs.map S = ys.map S ↔ xs = ys := by
  constructor
  · intro h
    exact List.map_inj_right (f := S) (fun a b e => S_inj.mp e) |>.mp h
  · intro h; rw [h]
theorem eqD_Ss {xs ys : List (List Nat)} (hx : ∀ x ∈ xs, CpOk x) (hy : ∀ x ∈ ys, CpOk x) : eqD (.lst (xs.map S)) (.lst (ys.map S)) = some (.sh (.bl (decide (xs = ys)))) := by
  have n1 : ∀ zs : List (List Nat), (∀ x ∈ zs, CpOk x) → NB 64 (.lst (zs.map S)) := fun zs hz d hd => by
    obtain ⟨z, h1, rfl⟩ := List.mem_map.mp hd
    exact NB_S (hz z h1)
  rw [eqD_NB (n1 xs hx) (n1 ys hy)]
  congr 3
  rw [decide_eq_decide]
  constructor
  · intro h
    injection h with h
    exact mapS_inj.mp h
  · intro h; rw [h]
end FD

end sec_EQ
section sec_EV5
set_option maxRecDepth 100000
set_option maxHeartbeats 5000000
/-! EV5: rules for dicts, zip, properties, alternatives, two-clause comprehensions. -/
namespace FD
open PySem L2
local instance tl5e : Tabl := { T := [] }
/-! association lists with keys that are lists of numbers -/
section
variable {α : Type}
end
section
variable {α β : Type} {ρ : Env} {w : W} {d d1 d2 : D} {i : Nat} {fa fb fk fv fe fo : M RV}
theorem R_alt1 {f g : M α} {Q : α → Env → W → Prop} (h : R f ρ w Q) : R (alt f g) ρ w Q := by
  obtain ⟨a, ρ', w', e, q⟩ := h
  exact ⟨a, ρ', w', by simp [alt, e], q⟩
theorem R_alt2 {f g : M α} {Q : α → Env → W → Prop} (n : f ρ w = none) (h : R g ρ w Q) : R (alt f g) ρ w Q := by
  obtain ⟨a, ρ', w', e, q⟩ := h
  exact ⟨a, ρ', w', by simp [alt, n, e], q⟩
@[simp] theorem R_dictM {Q : RV → Env → W → Prop} : R (dictM fo) ρ w Q ↔ R fo ρ w fun r ρ1 w1 => ∃ d, peek ρ1 w1 r = some d ∧ ∃ ps, pairsD d = some ps ∧ Q r ρ1 w1 := by
  unfold dictM
  rw [R_bind]
  constructor <;> intro h <;> refine h.mono fun r ρ1 w1 h => ?_
  · obtain ⟨a, ρ3, w3, e, q⟩ := h
    dsimp only at e
    cases e1 : peek ρ1 w1 r with
    | none => rw [e1] at e; cases e
    | some d =>
      rw [e1] at e
      dsimp only at e
      cases e2 : pairsD d with
      | none => rw [e2] at e; cases e
      | some ps =>
        rw [e2] at e
        cases e
        exact ⟨d, rfl, ps, e2, q⟩
  · obtain ⟨d, e1, ps, e2, q⟩ := h
    exact ⟨_, _, _, by simp [e1, e2], q⟩
@[simp] theorem R_dgetM {Q : RV → Env → W → Prop} : R (dgetM fo fk fe) ρ w Q ↔ R fo ρ w fun r1 ρ1 w1 => R fk ρ1 w1 fun r2 ρ2 w2 => R fe ρ2 w2 fun r3 ρ3 w3 => R (escR r3) ρ3 w3 fun z ρ4 w4 => R (lift2 (fun d k => match pairsD d with
  | some ps => (match keyT k with | some ks => some (.sh ((valT ps ks).getD z)) | none => none)
  | none => none) r1 r2) ρ4 w4 Q := by
  unfold dgetM
  first
  | (simp only [R_bind]; done)
  | (simp only [R_bind]; exact Iff.rfl)
theorem R_lput {Q : Fl → Env → W → Prop} (h : R fv ρ w fun r1 ρ1 w1 => R (escR r1) ρ1 w1 fun d ρ2 w2 => (∃ ds0, ownL ρ2 i = some ds0) ∧ R fk ρ2 w2 fun r2 ρ3 w3 => ∃ (ds : List D) (n : Nat), ownL ρ3 i = some ds ∧ peek ρ3 w3 r2 = some (.int n) ∧ n < ds.length ∧ Q .nx (ρ3.set i (some (.own (.lst (ds.set n d))))) w3) : R (lputM i fv fk) ρ w Q := by
  obtain ⟨r1, ρ1, w1, e1, d, ρ2, w2, e2, ⟨ps0, e3⟩, r2, ρ3, w3, e4, ds, n, e5, e6, hl, q⟩ := h
  refine ⟨_, _, _, ?_, q⟩
  unfold lputM
  simp [bindM, e1, e2, e3, e4, e5, e6, hl]
@[simp] theorem R_valsM {Q : RV → Env → W → Prop} : R (valsM fo) ρ w Q ↔ R fo ρ w fun r ρ1 w1 => ∃ d, peek ρ1 w1 r = some d ∧ ∃ ps, pairsD d = some ps ∧ Q (.fr (.lst (ps.map (·.2)))) ρ1 w1 := by
  unfold valsM
  rw [R_bind]
  constructor <;> intro h <;> refine h.mono fun r ρ1 w1 h => ?_
  · obtain ⟨a, ρ3, w3, e, q⟩ := h
    dsimp only at e
    cases e1 : peek ρ1 w1 r with
    | none => rw [e1] at e; cases e
    | some d =>
      rw [e1] at e
      dsimp only at e
      cases e2 : pairsD d with
      | none => rw [e2] at e; cases e
      | some ps =>
        rw [e2] at e
        cases e
        exact ⟨d, rfl, ps, e2, q⟩
  · obtain ⟨d, e1, ps, e2, q⟩ := h
    exact ⟨_, _, _, by simp [e1, e2], q⟩
@[simp] theorem R_propM {cn : Str} {den : List D → W → Option (RV × W)} {Q : RV → Env → W → Prop} : R (propM cn den fo) ρ w Q ↔ R fo ρ w fun r ρ1 w1 => R (escR r) ρ1 w1 fun d ρ2 w2 => (∃ gs, d = .ins cn gs) ∧ Ran (den [d] w2) fun r' w' => Q r' ρ2 w' := by
  unfold propM
  simp only [R_bind]
  constructor <;> intro h <;> refine h.mono fun r ρ1 w1 h => h.mono fun d ρ2 w2 h => ?_
  · cases d with
    | ins c' gs =>
      dsimp only at h
      by_cases hc : c' = cn
      · rw [if_pos hc, R_runD] at h
        exact ⟨⟨gs, by rw [hc]⟩, h⟩
      · rw [if_neg hc] at h
        obtain ⟨_, _, _, e, _⟩ := h
        cases e
    | _ =>
      obtain ⟨_, _, _, e, _⟩ := h
      cases e
  · obtain ⟨⟨gs, rfl⟩, h⟩ := h
    dsimp only
    rw [if_pos rfl, R_runD]
    exact h
@[simp] theorem R_starM {Q : RV → Env → W → Prop} : R (starM fa fb) ρ w Q ↔ R fa ρ w fun r1 ρ1 w1 => R (escR r1) ρ1 w1 fun d1 ρ2 w2 => R fb ρ2 w2 fun r2 ρ3 w3 => R (escR r2) ρ3 w3 fun d2 ρ4 w4 => ∃ xs ys, seqD d1 = some xs ∧ seqD d2 = some ys ∧ xs.length + ys.length ≤ 1000000 ∧ Q (.sh (.tup (xs ++ ys))) ρ4 w4 := by
  unfold starM
  simp only [R_bind]
  constructor <;> intro h <;> refine h.mono fun r ρ1 w1 h => h.mono fun d ρ2 w2 h => h.mono fun r2 ρ3 w3 h => h.mono fun d2 ρ4 w4 h => ?_
  · obtain ⟨a, ρ5, w5, e, q⟩ := h
    dsimp only at e
    split at e
    · rename_i xs ys e1 e2
      split at e
      · rename_i hl
        cases e
        exact ⟨xs, ys, e1, e2, hl, q⟩
      · cases e
    · cases e
  · obtain ⟨xs, ys, e1, e2, hl, q⟩ := h
    exact ⟨_, _, _, by simp [e1, e2, hl], q⟩
@[simp] theorem R_orVM {Q : RV → Env → W → Prop} : R (orVM fa fb) ρ w Q ↔ R fa ρ w fun r ρ1 w1 => ∃ d, r = .sh d ∧ ∃ b, truD d = some b ∧ if b = true then Q (.sh d) ρ1 w1 else R fb ρ1 w1 Q := by
  unfold orVM
  rw [R_bind]
  constructor <;> intro h <;> refine h.mono fun r ρ1 w1 h => ?_
  · cases r with
    | sh d =>
      dsimp only at h
      cases e : truD d with
      | none =>
        rw [e] at h
        obtain ⟨_, _, _, e, _⟩ := h
        cases e
      | some b =>
        rw [e] at h
        cases b with
        | true => exact ⟨d, rfl, true, e, by simpa using h⟩
        | false => exact ⟨d, rfl, false, e, by simpa using h⟩
    | fr d =>
      obtain ⟨_, _, _, e, _⟩ := h
      cases e
    | ob j =>
      obtain ⟨_, _, _, e, _⟩ := h
      cases e
    | ow j =>
      obtain ⟨_, _, _, e, _⟩ := h
      cases e
  · obtain ⟨d, rfl, b, e, h⟩ := h
    dsimp only
    rw [e]
    cases b with
    | true => simpa using h
    | false => simpa using h
@[simp] theorem R_dcTurn {asg : D → M Unit} {test : M Bool} {acc : List (D × D)} {Q : List (D × D) → Env → W → Prop} : R (dcTurn asg test fk fv d acc) ρ w Q ↔ R (asg d) ρ w fun _ ρ1 w1 => R test ρ1 w1 fun b ρ2 w2 => if b = true then R fk ρ2 w2 fun r1 ρ3 w3 => R fv ρ3 w3 fun r2 ρ4 w4 => R (escR r2) ρ4 w4 fun z ρ5 w5 => ∃ kd ks, peek ρ5 w5 r1 = some kd ∧ keyT kd = some ks ∧ Q (putT acc ks z) ρ5 w5 else Q acc ρ2 w2 := by
  unfold dcTurn
  simp only [R_bind, R_if, R_pure]
  constructor <;> intro h <;> refine h.mono fun _ ρ1 w1 h => h.mono fun b ρ2 w2 h => ?_
  · cases b with
    | false => simpa using h
    | true =>
      simp only [if_true] at h ⊢
      refine h.mono fun r1 ρ3 w3 h => h.mono fun r2 ρ4 w4 h => h.mono fun z ρ5 w5 h => ?_
      obtain ⟨a, ρ6, w6, e, q⟩ := h
      dsimp only at e
      cases e1 : peek ρ5 w5 r1 with
      | none => rw [e1] at e; cases e
      | some kd =>
        rw [e1] at e
        dsimp only at e
        cases e2 : keyT kd with
        | none => rw [e2] at e; cases e
        | some ks =>
          rw [e2] at e
          cases e
          exact ⟨kd, ks, rfl, e2, q⟩
  · cases b with
    | false => simpa using h
    | true =>
      simp only [if_true] at h ⊢
      refine h.mono fun r1 ρ3 w3 h => h.mono fun r2 ρ4 w4 h => h.mono fun z ρ5 w5 h => ?_
      obtain ⟨kd, ks, e1, e2, q⟩ := h
      exact ⟨_, _, _, by simp [e1, e2], q⟩
@[simp] theorem R_lenOM {cn : Str} {den : List D → W → Option (RV × W)} {Q : RV → Env → W → Prop} : R (lenOM cn den fa) ρ w Q ↔ R fa ρ w fun r ρ1 w1 => R (insR cn r) ρ1 w1 fun d ρ2 w2 => Ran (den [d] w2) fun z w3 => ∃ n : Int, z = .sh (.int n) ∧ (0 ≤ n ∧ n ≤ 1000000) ∧ Q (.sh (.int n)) ρ2 w3 := by
  unfold lenOM
  simp only [R_bind, R_runD]
  constructor <;> intro h <;> refine h.mono fun r ρ1 w1 h => h.mono fun d ρ2 w2 h => h.mono fun z w3 h => ?_
  · split at h
    · rename_i n
      split at h
      · rename_i hn
        exact ⟨n, rfl, hn, R_pure.mp h⟩
      · obtain ⟨_, _, _, e, _⟩ := h
        cases e
    · obtain ⟨_, _, _, e, _⟩ := h
      cases e
  · obtain ⟨n, rfl, hn, q⟩ := h
    dsimp only
    rw [if_pos hn]
    exact R_pure.mpr q
@[simp] theorem R_opOM {cn : Str} {den : List D → W → Option (RV × W)} {Q : RV → Env → W → Prop} : R (opOM cn den fa fb) ρ w Q ↔ R fa ρ w fun r1 ρ1 w1 => R fb ρ1 w1 fun r2 ρ2 w2 => R (insR cn r1) ρ2 w2 fun d1 ρ3 w3 => R (insR cn r2) ρ3 w3 fun d2 ρ4 w4 => Ran (den [d1, d2] w4) fun z w5 => Q z ρ4 w5 := by
  unfold opOM
  simp
@[simp] theorem R_ixOM {cn : Str} {den : List D → W → Option (RV × W)} {Q : RV → Env → W → Prop} : R (ixOM cn den fa fb) ρ w Q ↔ R fa ρ w fun r1 ρ1 w1 => R fb ρ1 w1 fun r2 ρ2 w2 => R (insR cn r1) ρ2 w2 fun d1 ρ3 w3 => R (escR r2) ρ3 w3 fun d2 ρ4 w4 => Ran (den [d1, d2] w4) fun z w5 => Q z ρ4 w5 := by
  unfold ixOM
  simp
@[simp] theorem R_chM {g g' : D → D → Option RV} {fc : M RV} {Q : RV → Env → W → Prop} : R (chM g g' fa fb fc) ρ w Q ↔ R fa ρ w fun r1 ρ1 w1 => R fb ρ1 w1 fun r2 ρ2 w2 => R (lift2 g r1 r2) ρ2 w2 fun z ρ3 w3 => ∃ b, z = .sh (.bl b) ∧ if b = true then R fc ρ3 w3 fun r3 ρ4 w4 => R (lift2 g' r2 r3) ρ4 w4 Q else Q (.sh (.bl false)) ρ3 w3 := by
  unfold chM
  simp only [R_bind]
  constructor <;> intro h <;> refine h.mono fun r ρ1 w1 h => h.mono fun r2 ρ2 w2 h => h.mono fun z ρ3 w3 h => ?_
  · split at h
    · exact ⟨true, rfl, by simpa using h⟩
    · exact ⟨false, rfl, by simpa using h⟩
    · obtain ⟨_, _, _, e, _⟩ := h
      cases e
  · obtain ⟨b, rfl, h⟩ := h
    cases b with
    | true => simpa using h
    | false => simpa using h
end
end FD

end sec_EV5
section sec_EV6
set_option maxRecDepth 100000
set_option maxHeartbeats 5000000
/-! EV6: loops over range(n) and over numbered lists. -/
namespace FD
open PySem L2
local instance tl6e : Tabl := { T := [] }
section
variable {α : Type} {ρ : Env} {w : W}
end
end FD

end sec_EV6
section sec_EV7
set_option maxRecDepth 100000
set_option maxHeartbeats 5000000
/-! EV7: rules for runs that raise, and for runs that do not come through. -/
namespace FD
open PySem L2
local instance tl7e : Tabl := { T := [] }
section
variable {α β : Type} {ρ : Env} {w : W} {fa : M (List RV)} {fo : M RV}
@[simp] theorem R_seqX {f : M Fl} {g : M Xn} {Q : Xn → Env → W → Prop} : R (seqX f g) ρ w Q ↔ R f ρ w fun fl ρ1 w1 => fl = .nx ∧ R g ρ1 w1 Q := by
  unfold seqX
  rw [R_bind]
  constructor <;> intro h <;> refine h.mono fun fl ρ1 w1 h => ?_
  · cases fl with
    | nx => exact ⟨rfl, h⟩
    | ct => obtain ⟨_, _, _, e, _⟩ := h; cases e
    | bk => obtain ⟨_, _, _, e, _⟩ := h; cases e
    | ret r => obtain ⟨_, _, _, e, _⟩ := h; cases e
  · obtain ⟨rfl, h⟩ := h
    exact h
@[simp] theorem R_ifX {ft : M Bool} {g g' : M Xn} {Q : Xn → Env → W → Prop} : R (ifX ft g g') ρ w Q ↔ R ft ρ w fun b ρ1 w1 => if b = true then R g ρ1 w1 Q else R g' ρ1 w1 Q := by
  unfold ifX
  rw [R_bind]
  constructor <;> intro h <;> refine h.mono fun b ρ1 w1 h => ?_
  · cases b with
    | true => simpa using h
    | false => simpa using h
  · cases b with
    | true => simpa using h
    | false => simpa using h
abbrev RanX (o : Option (Xn × W)) (Q : Xn → W → Prop) : Prop := Ran o Q
@[simp] theorem R_runX {den : List D → W → Option (Xn × W)} {ds : List D} {Q : Xn → Env → W → Prop} : R (runX den ds) ρ w Q ↔ RanX (den ds w) fun x w' => Q x ρ w' := by
  constructor
  · rintro ⟨x, ρ', w', e, q⟩
    obtain ⟨e1, rfl⟩ := runX_some e
    exact ⟨x, w', e1, q⟩
  · rintro ⟨x, w', e, q⟩
    exact ⟨x, ρ, w', by simp [runX, e], q⟩
@[simp] theorem R_callX {den : List D → W → Option (Xn × W)} {dd : List D} {Q : Xn → Env → W → Prop} : R (callX den dd fa) ρ w Q ↔ R fa ρ w fun rs ρ1 w1 => R (escAll rs) ρ1 w1 fun ds ρ2 w2 => RanX (den (ds ++ dd) w2) fun x w' => Q x ρ2 w' := by
  unfold callX
  simp only [R_bind, R_runX]
@[simp] theorem R_methX {cn m : Str} {den : List D → W → Option (Xn × W)} {dd : List D} {Q : Xn → Env → W → Prop} : R (methX cn m den dd fo fa) ρ w Q ↔ R fo ρ w fun r ρ1 w1 => R (selfR cn m r) ρ1 w1 fun d ρ2 w2 => R fa ρ2 w2 fun rs ρ3 w3 => R (escAll rs) ρ3 w3 fun ds ρ4 w4 => RanX (den (d :: (ds ++ dd)) w4) fun x w' => Q x ρ4 w' := by
  unfold methX
  simp only [R_bind, R_runX]
@[simp] theorem R_raiseX {cn f : Str} {Q : Xn → Env → W → Prop} : R (raiseX cn f fa) ρ w Q ↔ R fa ρ w fun rs ρ1 w1 => R (escAll rs) ρ1 w1 fun ds ρ2 w2 => ∃ d, ds = [d] ∧ Q ⟨cn, [(f, d)]⟩ ρ2 w2 := by
  unfold raiseX
  simp only [R_bind]
  constructor <;> intro h <;> refine h.mono fun rs ρ1 w1 h => h.mono fun ds ρ2 w2 h => ?_
  · match ds, h with
    | [d], h => exact ⟨d, rfl, by simpa using h⟩
    | [], ⟨_, _, _, e, _⟩ => cases e
    | _ :: _ :: _, ⟨_, _, _, e, _⟩ => cases e
  · obtain ⟨d, rfl, q⟩ := h
    simpa using q
theorem R_try1 {ex : List Str} {i j : Nat} {fb : M Fl} {gb : M Xn} {Q : Fl → Env → W → Prop} (h : R fb ρ w Q) : R (tryM ex i j fb gb) ρ w Q := by
  obtain ⟨a, ρ', w', e, q⟩ := h
  exact ⟨a, ρ', w', by simp [tryM, e], q⟩
theorem R_try2 {ex : List Str} {i j : Nat} {fb : M Fl} {gb : M Xn} {Q : Fl → Env → W → Prop} (n : fb ρ w = none) (h : R gb ρ w fun x ρ' w' => ex.contains x.cn = true ∧ Q .nx (((ρ'.set i none).set j (some (.val (.exc x.cn x.gs)))).set i none) w') : R (tryM ex i j fb gb) ρ w Q := by
  obtain ⟨x, ρ', w', e, c, q⟩ := h
  exact ⟨_, _, _, by simp only [tryM, n, e, c, if_true], q⟩
theorem X_run {n : Nat} {g : M Xn} {ds : List D} {Q : Xn → W → Prop} (h : R g (startE n ds) w fun x _ w' => Q x w') : RanX (denX n g ds w) Q := by
  obtain ⟨x, ρ', w', e, q⟩ := h
  exact ⟨x, w', by simp [denX, e], q⟩
theorem X_eq {n : Nat} {g : M Xn} {ds : List D} {x : Xn} {w' : W} (h : R g (startE n ds) w fun y _ v => y = x ∧ v = w') : denX n g ds w = some (x, w') := by
  obtain ⟨y, v, e, rfl, rfl⟩ := X_run (Q := fun y v => y = x ∧ v = w') h
  exact e
/-! runs that do not come through -/
theorem N_bind {f : M α} {k : α → M β} (h : R f ρ w fun a ρ1 w1 => k a ρ1 w1 = none) : bindM f k ρ w = none := by
  obtain ⟨a, ρ1, w1, e, q⟩ := h
  simp [bindM, e, q]
theorem N_bind0 {f : M α} {k : α → M β} (h : f ρ w = none) : bindM f k ρ w = none := by
  simp [bindM, h]
theorem D_none {n : Nat} {b : M Fl} {ds : List D} (h : b (startE n ds) w = none) : denB n b ds w = none := by
  simp [denB, h, endB]
theorem N_run {den : List D → W → Option (RV × W)} {ds : List D} (h : den ds w = none) : runD den ds ρ w = none := by
  simp [runD, h]
end
end FD

end sec_EV7
section sec_MA
set_option maxRecDepth 100000
set_option maxHeartbeats 5000000
/-! MA: closures, plainly. -/
namespace KL
open ST (Up up_eq setN mem_setN up_setN)
def U : List Nat := [97, 98, 99, 100, 114]
inductive InCl (cs : List Nat) (ds : List (List Nat × Nat)) (l : List Nat) : Nat → Prop
  | base {c : Nat} : c ∈ l → InCl cs ds l c
  | row {c : Nat} : InCl cs ds l 114 → c ∈ cs → InCl cs ds l c
  | dep {lo : List Nat} {c : Nat} : (lo, c) ∈ ds → (∀ x ∈ lo, InCl cs ds l x) → InCl cs ds l c
/-- a closed set -/
def Cld (cs : List Nat) (ds : List (List Nat × Nat)) (f : List Nat) : Prop := (114 ∈ f → ∀ c ∈ cs, c ∈ f) ∧ ∀ p ∈ ds, (∀ x ∈ p.1, x ∈ f) → p.2 ∈ f
section
variable {cs : List Nat} {ds es : List (List Nat × Nat)} {l f : List Nat} {c : Nat}
theorem InCl.le (h : Cld cs ds f) (hl : ∀ x ∈ l, x ∈ f) (hc : InCl cs ds l c) : c ∈ f := by
  induction hc with
  | base h1 => exact hl _ h1
  | row h1 h2 ih => exact h.1 ih _ h2
  | dep h1 h2 ih => exact h.2 _ h1 ih
theorem InCl.mono (h : ∀ p ∈ ds, ∀ m, (∀ x ∈ p.1, InCl cs es m x) → InCl cs es m p.2) (hc : InCl cs ds l c) : InCl cs es l c := by
  induction hc with
  | base h1 => exact .base h1
  | row h1 h2 ih => exact .row ih h2
  | dep h1 h2 ih => exact h _ h1 _ ih
theorem InCl.trans {m : List Nat} (h : ∀ x ∈ m, InCl cs ds l x) (hc : InCl cs ds m c) : InCl cs ds l c := by
  induction hc with
  | base h1 => exact h _ h1
  | row h1 h2 ih => exact .row ih h2
  | dep h1 h2 ih => exact .dep h1 ih
/-- columns, dependences, sets -/
def Col (cs : List Nat) : Prop := cs.Sublist [97, 98, 99, 100] ∧ cs ≠ []
def Set_ (cs l : List Nat) : Prop := l.Sublist (cs ++ [114])
def Dep (cs : List Nat) (p : List Nat × Nat) : Prop := Set_ cs p.1 ∧ p.2 ∈ cs ++ [114]
theorem upU : Up U := by decide
theorem Col.sub (h : Col cs) : (cs ++ [114]).Sublist U := by
  have := h.1.append (List.Sublist.refl [114])
  exact this
theorem Col.up (h : Col cs) : Up (cs ++ [114]) := upU.sublist h.sub
theorem Col.upc (h : Col cs) : Up cs := List.Pairwise.sublist h.1 (by decide)
theorem Set_.up (h : Col cs) (s : Set_ cs l) : Up l := h.up.sublist s
theorem Set_.len (h : Col cs) (s : Set_ cs l) : l.length ≤ 5 := (s.trans h.sub).length_le
theorem Col.len (h : Col cs) : cs.length ≤ 4 := h.1.length_le
theorem Col.mem (h : Col cs) : ∀ x ∈ cs, x ∈ [97, 98, 99, 100] := fun x hx => h.1.subset hx
/-- an ascending list of members is a sublist -/
theorem sub_of_up : ∀ {l m : List Nat}, Up l → Up m → (∀ x ∈ l, x ∈ m) → l.Sublist m
  | [], m, _, _, _ => List.nil_sublist m
  | x :: l, [], _, _, h => by cases h x List.mem_cons_self
  | x :: l, y :: m, hl, hm, h => by
    obtain ⟨l1, l2⟩ := List.pairwise_cons.mp hl
    obtain ⟨m1, m2⟩ := List.pairwise_cons.mp hm
    by_cases e : x = y
    · subst e
      refine (sub_of_up l2 m2 fun z hz => ?_).cons₂ x
      rcases List.mem_cons.mp (h z (List.mem_cons_of_mem _ hz)) with q | q
      · have := l1 z hz
        omega
      · exact q
    · refine (sub_of_up hl m2 fun z hz => ?_).cons y
      rcases List.mem_cons.mp (h z hz) with q | q
      · subst q
        rcases List.mem_cons.mp hz with q | q
        · exact absurd q.symm e
        · have a := l1 z q
          rcases List.mem_cons.mp (h x List.mem_cons_self) with b | b
          · exact absurd b e
          · have := m1 x b
            omega
      · exact q
noncomputable def cl (cs : List Nat) (ds : List (List Nat × Nat)) (l : List Nat) : List Nat := (cs ++ [114]).filter fun c => @decide (InCl cs ds l c) (Classical.propDecidable _)
theorem InCl.inn (hd : ∀ p ∈ ds, p.2 ∈ cs ++ [114]) (hl : ∀ x ∈ l, x ∈ cs ++ [114]) (hc : InCl cs ds l c) : c ∈ cs ++ [114] := by
  induction hc with
  | base h1 => exact hl _ h1
  | row h1 h2 ih => exact List.mem_append_left _ h2
  | dep h1 h2 ih => exact hd _ h1
theorem mem_cl (hd : ∀ p ∈ ds, Dep cs p) (hl : ∀ x ∈ l, x ∈ cs ++ [114]) : c ∈ cl cs ds l ↔ InCl cs ds l c := by
  unfold cl
  rw [List.mem_filter]
  simp only [decide_eq_true_eq]
  exact ⟨fun h => h.2, fun h => ⟨h.inn (fun p hp => (hd p hp).2) hl, h⟩⟩
theorem cl_set : Set_ cs (cl cs ds l) := List.filter_sublist
theorem cl_up (h : Col cs) : Up (cl cs ds l) := cl_set.up h
theorem cl_eq (h : Col cs) (hd : ∀ p ∈ ds, Dep cs p) (hl : ∀ x ∈ l, x ∈ cs ++ [114]) (hf : Up f) (h1 : ∀ c, c ∈ f ↔ InCl cs ds l c) : f = cl cs ds l := up_eq hf (cl_up h) fun x => (h1 x).trans (mem_cl hd hl).symm
theorem cl_of_closed (h : Col cs) (hd : ∀ p ∈ ds, Dep cs p) (hl : ∀ x ∈ l, x ∈ cs ++ [114]) (hf : Up f) (h1 : ∀ x ∈ l, x ∈ f) (h2 : Cld cs ds f) (h3 : ∀ x ∈ f, InCl cs ds l x) : f = cl cs ds l := cl_eq h hd hl hf fun c => ⟨h3 c, fun q => q.le h2 h1⟩
end
end KL

end sec_MA
section sec_S1
set_option maxRecDepth 100000
set_option maxHeartbeats 5000000
/-! S1: the program's functions over sets. -/
namespace KL
open PySem L2 FD
open ST (Up up_eq setN mem_setN up_setN)
theorem within_eq {a b : List Nat} {w : W} (ha : a.length ≤ 1000000) : D_within [S a, S b] w = some (.sh (.bl (a.all fun c => decide (c ∈ b))), w) := by
  refine D_eq ?_
  simp [d_within, startE, R_var, R_lcM, R_iter, iterD_S]
  refine ⟨⟨rfl, ha⟩, ?_⟩
  refine R_lcMap (fun c => S [c]) (fun c => .bl (decide (c ∈ b))) a (fun c hc => ?_) ?_
  · simp [R_var, inS_S, wipeE]
  · simp [R_liftN, peeks, peek, allD_map, outR]
theorem lit_e : (("" : Str)) = st [] := rfl
theorem lit_r : (("r" : Str)) = st [114] := by decide +kernel
theorem lit_abcd : (("abcd" : Str)) = st [97, 98, 99, 100] := by decide +kernel
theorem joinD_signs {l : List Nat} (h : l.length ≤ 1000000) : joinD (st []) (.lst (l.map fun c => S [c])) = some (.sh (S l)) := by
  have e : (l.map fun c => S [c]) = (l.map fun c => [c]).map S := by simp
  have e2 : (l.map fun c => [c]).flatten = l := by
    clear e h
    induction l with
    | nil => rfl
    | cons a l ih => simp [ih]
  rw [e, joinD_S (by rw [e2]; exact h), e2]
theorem setN_len (l : List Nat) : (setN l).length ≤ l.length := by
  induction l with
  | nil => exact Nat.le_refl _
  | cons c l ih =>
    have : ∀ (m : List Nat), (ST.insN c m).length ≤ m.length + 1 := by
      intro m
      induction m with
      | nil => simp [ST.insN]
      | cons d m ih =>
        unfold ST.insN
        split
        · simp
        · split
          · simp
          · simp only [List.length_cons]
            omega
    have := this (setN l)
    show (ST.insN c (setN l)).length ≤ _
    simp only [List.length_cons]
    omega
theorem joined_eq {a b : List Nat} {w : W} (h : a.length + b.length < 4000) : D_joined [S a, S b] w = some (.sh (S (setN (a ++ b))), w) := by
  refine D_eq ?_
  have hs := setN_len (a ++ b)
  rw [List.length_append] at hs
  simp [d_joined, startE, R_var, addD_S (show a.length + b.length ≤ 1000000 by omega), h, lit_e, sset_S, R_lift1', peek, joinD_signs (show (setN (a ++ b)).length ≤ 1000000 by omega), outR]
theorem rises_eq {a : List Nat} {w : W} (h : a.length ≤ 1000) : D_rises [S a] w = some (.sh (.bl (decide (Up a))), w) := by
  refine D_eq ?_
  have e0 : (st a).length ≤ 1000000 := by rw [st_len]; omega
  simp [d_rises, startE, R_var, R_lcM, lenD_S (show a.length ≤ 1000000 by omega), R_liftN, peeks, peek, intD, i0]
  rw [R_range (n := a.length - 1) rfl (by omega)]
  refine ⟨⟨rfl, by simp; omega⟩, ?_⟩
  refine R_lcMap (fun i : Nat => D.int (i : Int)) (fun i => .bl (decide (a.getD i 0 < a.getD (i + 1) 0))) _ (fun c hc => ?_) ?_
  · have hc' : c + 1 < a.length := by
      have := List.mem_range.mp hc
      omega
    have e1 := atI_nat a c (by omega)
    have e2 := atI_nat a (c + 1) hc'
    simp at e2
    have e3 : c < a.length := by omega
    simp [R_var, wipeE, ixD, e0, e1, e2, addD, ordD, ltS, hc', e3, List.cons_lt_cons_iff]
  · simp [R_liftN, peeks, peek, allD_map, outR]
    rw [Bool.eq_iff_iff]
    simp only [List.all_eq_true, List.mem_range, decide_eq_true_eq]
    constructor
    · intro hh
      refine List.pairwise_iff_getElem.mpr ?_
      intro i j hi hj hij
      induction j with
      | zero => omega
      | succ j ih =>
        have q := hh j (by omega)
        have hj' : j < a.length := by omega
        simp [hj, hj'] at q
        by_cases e : i = j
        · subst e
          exact q
        · have := ih hj' (by omega)
          omega
    · intro hu x hx
      have q := List.pairwise_iff_getElem.mp hu x (x + 1) (by omega) (by omega) (by omega)
      have h1 : x < a.length := by omega
      have h2 : x + 1 < a.length := by omega
      simpa [h1, h2] using q
end KL

end sec_S1
section sec_P4
set_option maxRecDepth 100000
set_option maxHeartbeats 5000000
/-! P4: sets, dependences, closures. -/
namespace KL
open PySem L2 FD
open ST (Up up_eq setN mem_setN up_setN)
theorem is_set_eq {cs a : List Nat} {w : W} (hc : cs.length ≤ 1000) (h : a.length ≤ 1000) : D_is_set [S cs, S a] w = some (.sh (.bl (decide (Up a) && a.all fun c => decide (c ∈ cs ++ [114]))), w) := by
  refine D_eq ?_
  simp [d_is_set, startE, R_var, isiD, tyB, bt_str, rises_eq h]
  by_cases hu : Up a
  · simp only [hu, if_true, decide_true, Bool.true_and]
    simp [R_var, R_lcM, R_iter, iterD_S]
    refine ⟨⟨rfl, by omega⟩, ?_⟩
    refine R_lcMap (fun c => S [c]) (fun c => .bl (decide (c ∈ cs ++ [114]))) a (fun c hc' => ?_) ?_
    · simp [R_var, wipeE, lit_r, addD_S (show cs.length + [114].length ≤ 1000000 by simp; omega), inS_S]
    · simp [R_liftN, peeks, peek, allD_map, outR]
  · simp [hu, outR]
theorem need_set_eq {cs a : List Nat} {w : W} (hc : cs.length ≤ 1000) (h : a.length ≤ 1000) (h1 : Up a) (h2 : ∀ c ∈ a, c ∈ cs ++ [114]) : D_need_set [S cs, S a] w = some (.sh .non, w) := by
  refine D_eq ?_
  have e : (decide (Up a) && a.all fun c => decide (c ∈ cs ++ [114])) = true := by
    simp only [Bool.and_eq_true, decide_eq_true_eq, List.all_eq_true]
    exact ⟨h1, h2⟩
  have e2 := is_set_eq (w := w) hc h
  rw [e] at e2
  simp [d_need_set, startE, R_var, e2]
abbrev depD (p : List Nat × Nat) : D := .tup [S p.1, S [p.2]]
/-- the for of closure_of -/
theorem closure_for {cs : List Nat} {ds : List (List Nat × Nat)} {l : List Nat} {w : W} (hC : Col cs) (hd : ∀ p ∈ ds, Dep cs p) (hl : Set_ cs l) {ρ4 x5 x6 : Option Slot} {T : D} {f0 : List Nat} (hf0 : Up f0) (hf1 : ∀ x ∈ f0, InCl cs ds l x) {Q : Fl → FD.Env → W → Prop}
    (q : ∀ f x5 x6, Up f → (∀ x ∈ f, InCl cs ds l x) → (∀ x ∈ f0, x ∈ f) → (∀ p ∈ ds, (∀ x ∈ p.1, x ∈ f0) → p.2 ∈ f) → Q .nx [some (.val (S cs)), some (.val T), some (.val (S l)), some (.val (S f)), ρ4, x5, x6] w) :
    R (forL (gTupM (gConsM (gNameM 5) (gConsM (gNameM 6) gNilM))) (ifM (boolM (callM D_within [] (consA (varM 5) (consA (varM 3) (pureM []))))) (setM' 3 (callM D_joined [] (consA (varM 3) (consA (varM 6) (pureM []))))) (pureM .nx)) (ds.map depD)) [some (.val (S cs)), some (.val T), some (.val (S l)), some (.val (S f0)), ρ4, x5, x6] w Q := by
  obtain ⟨J, hJ⟩ : ∃ J : List (List Nat × Nat) → FD.Env → W → Prop, ∀ rest ρ w', J rest ρ w' ↔ (w' = w ∧ ∃ f x5 x6, ρ = [some (.val (S cs)), some (.val T), some (.val (S l)), some (.val (S f)), ρ4, x5, x6] ∧ Up f ∧ (∀ x ∈ f, InCl cs ds l x) ∧ (∀ x ∈ f0, x ∈ f) ∧ (∀ p ∈ rest, p ∈ ds) ∧ ∀ p ∈ ds, (∀ x ∈ p.1, x ∈ f0) → p.2 ∈ f ∨ p ∈ rest) := ⟨_, fun _ _ _ => Iff.rfl⟩
  refine R_forLm depD J ?_ ?_ ds _ _ ((hJ _ _ _).mpr ⟨rfl, f0, x5, x6, rfl, hf0, hf1, fun _ h => h, fun _ h => h, fun p h _ => .inr h⟩)
  · rintro ⟨lo, c⟩ rest ρ w' h
    obtain ⟨rfl, f, x5, x6, rfl, hf, hi, h0, hr, hp⟩ := (hJ _ _ _).mp h
    have hm := hr (lo, c) List.mem_cons_self
    have hD := hd _ hm
    have hlo : lo.length ≤ 5 := hD.1.len hC
    have hin : ∀ x ∈ f, x ∈ cs ++ [114] := fun x hx => (hi x hx).inn (fun p hp => (hd p hp).2) fun y hy => hl.subset hy
    have hfl : f.length ≤ 5 := Nat.le_trans (sub_of_up hf hC.up hin).length_le (by have := hC.len; simp; omega)
    by_cases hw : ∀ x ∈ lo, x ∈ f
    · have hw' : (lo.all fun c => decide (c ∈ f)) = true := by simpa using hw
      have hj := joined_eq (a := f) (b := [c]) (w := w') (by simp only [List.length_cons, List.length_nil]; omega)
      simp [R_var, within_eq (show lo.length ≤ 1000000 by omega), hw', hj]
      refine (hJ _ _ _).mpr ⟨rfl, _, _, _, rfl, up_setN _, fun x hx => ?_, fun x hx => ?_, fun p hp => hr p (List.mem_cons_of_mem _ hp), fun p hab h => ?_⟩
      · rcases List.mem_append.mp (mem_setN.mp hx) with hx | hx
        · exact hi x hx
        · rw [List.mem_singleton.mp hx]
          exact .dep hm fun y hy => hi y (hw y hy)
      · exact mem_setN.mpr (List.mem_append_left _ (h0 x hx))
      · rcases hp p hab h with z | z
        · exact .inl (mem_setN.mpr (List.mem_append_left _ z))
        · rcases List.mem_cons.mp z with z | z
          · rw [z]
            exact .inl (mem_setN.mpr (List.mem_append_right _ (List.mem_singleton.mpr rfl)))
          · exact .inr z
    · have hw' : (lo.all fun c => decide (c ∈ f)) = false := by simpa using hw
      simp [R_var, within_eq (show lo.length ≤ 1000000 by omega), hw']
      refine (hJ _ _ _).mpr ⟨rfl, f, _, _, rfl, hf, hi, h0, fun p hp => hr p (List.mem_cons_of_mem _ hp), fun p hab h => ?_⟩
      rcases hp p hab h with z | z
      · exact .inl z
      · rcases List.mem_cons.mp z with z | z
        · rw [z] at h
          exact absurd (fun x hx => h0 x (h x hx)) hw
        · exact .inr z
  · intro ρ w' h
    obtain ⟨rfl, f, x5, x6, rfl, hf, hi, h0, hr, hp⟩ := (hJ _ _ _).mp h
    exact q f x5 x6 hf hi h0 fun p h1 h2 => (hp p h1 h2).elim id fun z => nomatch z
theorem closure_of_eqD {cs : List Nat} {ds : List (List Nat × Nat)} {dd : D} (it : iterD dd = some (ds.map depD)) {l : List Nat} {w : W} (hC : Col cs) (hd : ∀ p ∈ ds, Dep cs p) (hl : Set_ cs l) : D_closure_of [S cs, dd, S l] w = some (.sh (S (cl cs ds l)), w) := by
  refine D_eq ?_
  simp [d_closure_of, startE, R_var]
  have hin : ∀ f : List Nat, (∀ x ∈ f, InCl cs ds l x) → ∀ x ∈ f, x ∈ cs ++ [114] := fun f hi x hx => (hi x hx).inn (fun p hp => (hd p hp).2) fun y hy => hl.subset hy
  have hlen : ∀ f : List Nat, Up f → (∀ x ∈ f, InCl cs ds l x) → f.length ≤ 5 := fun f hf hi => Nat.le_trans (sub_of_up hf hC.up (hin f hi)).length_le (by have := hC.len; simp; omega)
  have cp : ∀ f : List Nat, (∀ x ∈ f, InCl cs ds l x) → CpOk f := fun f hi x hx => by
    have := hC.sub.subset (hin f hi x hx)
    simp [U] at this
    omega
  obtain ⟨J, hJ⟩ : ∃ J : Nat → FD.Env → W → Prop, ∀ k ρ w', J k ρ w' ↔ (w' = w ∧ ∃ f x4 x5 x6, ρ = [some (.val (S cs)), some (.val dd), some (.val (S l)), some (.val (S f)), some (.val x4), x5, x6] ∧ Up f ∧ (∀ x ∈ f, InCl cs ds l x) ∧ (∀ x ∈ l, x ∈ f) ∧
    ((x4 = .non ∧ k = 7 - f.length) ∨ ∃ b, x4 = S b ∧ (∀ x ∈ b, InCl cs ds l x) ∧ ((b ≠ f ∧ k = 7 - f.length) ∨ (b = f ∧ k = 0 ∧ Cld cs ds f)))) := ⟨_, fun _ _ _ => Iff.rfl⟩
  obtain ⟨B, hB⟩ : ∃ B : Nat → FD.Env → W → Prop, ∀ k ρ w', B k ρ w' ↔ (w' = w ∧ ∃ f x4 x5 x6, ρ = [some (.val (S cs)), some (.val dd), some (.val (S l)), some (.val (S f)), some (.val x4), x5, x6] ∧ Up f ∧ (∀ x ∈ f, InCl cs ds l x) ∧ (∀ x ∈ l, x ∈ f) ∧ k = 7 - f.length) := ⟨_, fun _ _ _ => Iff.rfl⟩
  refine R_while2 J B ?_ ?_ 1000000 _ _ _ (by omega : 7 - l.length < 1000000) ((hJ _ _ _).mpr ⟨rfl, l, .non, none, none, rfl, hl.up hC, fun x hx => .base hx, fun _ h => h, .inl ⟨rfl, rfl⟩⟩)
  · intro k ρ w' h
    obtain ⟨rfl, f, x4, x5, x6, rfl, hf, hi, hlf, h4⟩ := (hJ _ _ _).mp h
    rcases h4 with ⟨rfl, hk⟩ | ⟨b, rfl, hb, ⟨hne, hk⟩ | ⟨rfl, hk, hcl⟩⟩
    · have e : neD (S f) .non = some (.sh (.bl true)) := by
        simp [neD, cmpD, toPy, shaped_str (cp f hi)]
        exact ⟨rfl, rfl⟩
      simp [R_var, e]
      exact (hB _ _ _).mpr ⟨rfl, f, _, _, _, rfl, hf, hi, hlf, hk⟩
    · have e : neD (S f) (S b) = some (.sh (.bl true)) := by rw [neD_S (cp f hi) (cp b hb)]; simp [Ne.symm hne]
      simp [R_var, e]
      exact (hB _ _ _).mpr ⟨rfl, f, _, _, _, rfl, hf, hi, hlf, hk⟩
    · have e : neD (S b) (S b) = some (.sh (.bl false)) := by rw [neD_S (cp b hi) (cp b hi)]; simp
      simp [R_var, e, outR]
      rw [cl_of_closed hC hd (fun x hx => hl.subset hx) hf hlf hcl hi]
  · intro k ρ w' h
    obtain ⟨rfl, f, x4, x5, x6, rfl, hf, hi, hlf, hk⟩ := (hB _ _ _).mp h
    have hfl := hlen f hf hi
    have fin : ∀ f1, Up f1 → (∀ x ∈ f1, InCl cs ds l x) → (∀ x ∈ f, x ∈ f1) → (114 ∈ f → ∀ c ∈ cs, c ∈ f1) → ∀ f2, Up f2 → (∀ x ∈ f2, InCl cs ds l x) → (∀ x ∈ f1, x ∈ f2) → (∀ p ∈ ds, (∀ x ∈ p.1, x ∈ f1) → p.2 ∈ f2) → ∀ x5 x6, ∃ k', k' < k ∧ J k' [some (.val (S cs)), some (.val dd), some (.val (S l)), some (.val (S f2)), some (.val (S f)), x5, x6] w' := by
      intro f1 u1 i1 s1 r1 f2 u2 i2 s2 d2 x5 x6
      by_cases e : f = f2
      · refine ⟨0, by omega, (hJ _ _ _).mpr ⟨rfl, f2, _, _, _, rfl, u2, i2, fun x hx => s2 x (s1 x (hlf x hx)), .inr ⟨f, rfl, hi, .inr ⟨e, rfl, ?_⟩⟩⟩⟩
        subst e
        exact ⟨fun h c hc => s2 c (r1 h c hc), fun p hp h => d2 p hp fun x hx => s1 x (h x hx)⟩
      · refine ⟨7 - f2.length, ?_, (hJ _ _ _).mpr ⟨rfl, f2, _, _, _, rfl, u2, i2, fun x hx => s2 x (s1 x (hlf x hx)), .inr ⟨f, rfl, hi, .inl ⟨e, rfl⟩⟩⟩⟩
        have sb := sub_of_up hf u2 fun x hx => s2 x (s1 x hx)
        have := sb.length_le
        have h2 := hlen f2 u2 i2
        have : f.length ≠ f2.length := fun z => e (sb.eq_of_length z)
        omega
    by_cases h114 : 114 ∈ f
    · have hj := joined_eq (a := f) (b := cs) (w := w') (by have := hC.len; omega)
      have i1 : ∀ x ∈ setN (f ++ cs), InCl cs ds l x := fun x hx => by
        rcases List.mem_append.mp (mem_setN.mp hx) with z | z
        · exact hi x z
        · exact .row (hi _ h114) z
      simp [R_var, lit_r, inS_S, h114, hj, R_iter, it]
      exact closure_for hC hd hl (up_setN _) i1 fun f2 x5 x6 u2 i2 s2 d2 => fin (setN (f ++ cs)) (up_setN _) i1 (fun x hx => mem_setN.mpr (List.mem_append_left _ hx)) (fun _ c hc => mem_setN.mpr (List.mem_append_right _ hc)) f2 u2 i2 s2 d2 x5 x6
    · simp [R_var, lit_r, inS_S, h114, R_iter, it]
      exact closure_for hC hd hl hf hi fun f2 x5 x6 u2 i2 s2 d2 => fin f hf hi (fun _ h => h) (fun h => absurd h h114) f2 u2 i2 s2 d2 x5 x6
end KL

end sec_P4
section sec_P5
set_option maxRecDepth 100000
set_option maxHeartbeats 5000000
/-! P5: schemes. -/
namespace KL
open PySem L2 FD
open ST (Up up_eq setN mem_setN up_setN)
theorem Set_.b {cs a : List Nat} (hC : Col cs) (h : Set_ cs a) : (decide (Up a) && a.all fun c => decide (c ∈ cs ++ [114])) = true := by
  simp only [Bool.and_eq_true, decide_eq_true_eq, List.all_eq_true]
  exact ⟨h.up hC, fun c hc => h.subset hc⟩
theorem one_set {cs : List Nat} {c : Nat} (h : c ∈ cs ++ [114]) : Set_ cs [c] := List.singleton_sublist.mpr h
theorem is_dependence_eq {cs : List Nat} {p : List Nat × Nat} {w : W} (hC : Col cs) (hp : Dep cs p) : D_is_dependence [S cs, depD p] w = some (.sh (.bl true), w) := by
  refine D_eq ?_
  have hc := hC.len
  have h1 := hp.1.len hC
  have e1 := is_set_eq (cs := cs) (a := p.1) (w := w) (by omega) (by omega)
  have e2 := is_set_eq (cs := cs) (a := [p.2]) (w := w) (by omega) (by simp)
  rw [hp.1.b hC] at e1
  rw [(one_set hp.2).b hC] at e2
  have a0 : L2.atI [S p.1, S [p.2]] 0 = some (S p.1) := rfl
  have a1 : L2.atI [S p.1, S [p.2]] 1 = some (S [p.2]) := rfl
  simp [d_is_dependence, startE, R_var, isiD, tyB, bt_tuple, R_liftN, peeks, peek, lenD, neD_int, ixD, a0, a1, e1, e2, eqD_int, st_len, outR]
theorem numD_map {α : Type} (f : α → D) : ∀ (l : List α) (n : Nat), numD n (l.map f) = (l.zipIdx n).map fun p => .tup [.int p.2, f p.1]
  | [], _ => rfl
  | a :: l, n => by
    rw [List.map_cons, List.zipIdx_cons, List.map_cons, ← numD_map f l (n + 1)]
    rfl
theorem need_dependences_eqD {cs : List Nat} {ds : List (List Nat × Nat)} {d : D} {w : W} (e1 : isiD bt_list_tuple ic_list_tuple d = some true) (e2 : seqD d = some (ds.map depD)) (hC : Col cs) (hd : ∀ p ∈ ds, Dep cs p) (hl : ds.length ≤ 20) : D_need_dependences [S cs, d] w = some (.sh .non, w) := by
  refine D_eq ?_
  simp [d_need_dependences, startE, R_var, e1, R_enumM, e2, numD_map]
  obtain ⟨J, hJ⟩ : ∃ J : List ((List Nat × Nat) × Nat) → FD.Env → W → Prop, ∀ rest ρ w', J rest ρ w' ↔ (w' = w ∧ (∀ p ∈ rest, p.1 ∈ ds ∧ p.2 < 20) ∧ ∃ x2 x3, ρ = [some (.val (S cs)), some (.val d), x2, x3]) := ⟨_, fun _ _ _ => Iff.rfl⟩
  refine R_forLm (fun p : (List Nat × Nat) × Nat => .tup [.int p.2, depD p.1]) J ?_ ?_ _ _ _ ((hJ _ _ _).mpr ⟨rfl, fun p hp => ?_, _, _, rfl⟩)
  · rintro ⟨p, i⟩ rest ρ w' h
    obtain ⟨rfl, hr, x2, x3, rfl⟩ := (hJ _ _ _).mp h
    obtain ⟨hm, hi⟩ := hr _ List.mem_cons_self
    have ni : ¬ ((i : Int) = 20) := by
      simp at hi
      omega
    simp [R_var, eqD_int, ni, is_dependence_eq hC (hd p hm)]
    exact (hJ _ _ _).mpr ⟨rfl, fun q hq => hr q (List.mem_cons_of_mem _ hq), _, _, rfl⟩
  · intro ρ w' h
    obtain ⟨rfl, _, x2, x3, rfl⟩ := (hJ _ _ _).mp h
    simp
  · obtain ⟨p, i⟩ := p
    obtain ⟨h1, h2, h3⟩ := List.mem_zipIdx hp
    refine ⟨?_, ?_⟩
    · rw [h3]
      exact List.getElem_mem _
    · show i < 20
      omega
theorem is_columns_eq {cs : List Nat} {w : W} (hC : Col cs) : D_is_columns [S cs] w = some (.sh (.bl true), w) := by
  refine D_eq ?_
  have hc := hC.len
  have e1 := rises_eq (a := cs) (w := w) (by omega)
  have cp : CpOk cs := fun x hx => by
    have := hC.mem x hx
    simp at this
    omega
  simp [hC.upc] at e1
  have e2 := eqD_S cp (m := []) (fun x hx => nomatch hx)
  simp [d_is_columns, startE, R_var, isiD, tyB, bt_str, e1, e2, lit_e, hC.2, R_lcM, R_iter, iterD_S]
  refine ⟨⟨rfl, by omega⟩, R_lcMap (fun c => S [c]) (fun c => .bl true) cs (fun c hc' => ?_) ?_⟩
  · have := hC.mem c hc'
    simp at this
    simp [R_var, wipeE, lit_abcd, inS_S, this]
  · simp [R_liftN, peeks, peek, allD_map, outR]
theorem need_columns_eq {cs : List Nat} {w : W} (hC : Col cs) : D_need_columns [S cs] w = some (.sh .non, w) := by
  refine D_eq ?_
  simp [d_need_columns, startE, R_var, is_columns_eq hC]
abbrev schF (cs : List Nat) (dd : D) : List (Str × D) := [("own_columns", S cs), ("own_dependences", dd)]
abbrev schD (cs : List Nat) (dd : D) : D := .ins "Scheme" (schF cs dd)
abbrev schG (cs : List Nat) (ds : List (List Nat × Nat)) : List (Str × D) := schF cs (.tup (ds.map depD))
abbrev sch (cs : List Nat) (ds : List (List Nat × Nat)) : D := .ins "Scheme" (schG cs ds)
theorem Scheme_eqD {cs : List Nat} {ds : List (List Nat × Nat)} {d dd : D} {w : W} (e : tupD [d] = some (.sh dd)) (e1 : isiD bt_list_tuple ic_list_tuple d = some true) (e2 : seqD d = some (ds.map depD)) (hC : Col cs) (hd : ∀ p ∈ ds, Dep cs p) (hl : ds.length ≤ 20) : I_Scheme [S cs, d] w = some (schF cs dd, w) := by
  have : R (d_Scheme_init []) (none :: startE 2 [S cs, d]) w fun gs ρ' w' => gs = schF cs dd ∧ w' = w := by
    simp [d_Scheme_init, startE, R_var, need_columns_eq hC, need_dependences_eqD e1 e2 hC hd hl, R_liftN, peeks, peek, e, putD]
    decide +kernel
  obtain ⟨gs, ρ', w', e, rfl, rfl⟩ := this
  simp [I_Scheme, denI, e]
theorem Scheme_eq {cs : List Nat} {ds : List (List Nat × Nat)} {d : D} {w : W} (hC : Col cs) (hd : ∀ p ∈ ds, Dep cs p) (hl : ds.length ≤ 20) (h : d = .tup (ds.map depD) ∨ d = .lst (ds.map depD)) : I_Scheme [S cs, d] w = some (schG cs ds, w) :=
  Scheme_eqD (by rcases h with rfl | rfl <;> rfl) (by rcases h with rfl | rfl <;> simp [isiD, tyB, bt_list_tuple]) (by rcases h with rfl | rfl <;> rfl) hC hd hl
end KL

end sec_P5
section sec_X0
set_option maxRecDepth 100000
set_option maxHeartbeats 5000000
/-! X0: runs that come to nothing. -/
namespace FD
open PySem L2
local instance tx0a : Tabl := { T := [] }
section
variable {g : D → M Unit} {body : M Fl} {xb : M Xn} {x : D} {rest : List D}
theorem N_forL (I : List D → Env → W → Prop) (step : ∀ d l ρ w, I (d :: l) ρ w → R (g d) ρ w fun _ ρ1 w1 => xb ρ1 w1 = none ∧ R body ρ1 w1 fun fl ρ2 w2 => fl = .nx ∧ I l ρ2 w2) (last : ∀ ρ w, I [] ρ w → R (g x) ρ w fun _ ρ1 w1 => body ρ1 w1 = none) :
    ∀ (pre : List D) (ρ : Env) (w : W), I pre ρ w → forL g body (pre ++ x :: rest) ρ w = none
  | [], ρ, w, h => by
    obtain ⟨_, ρ1, w1, e1, e2⟩ := last ρ w h
    simp [forL, bindM, e1, e2]
  | d :: l, ρ, w, h => by
    obtain ⟨_, ρ1, w1, e1, _, fl, ρ2, w2, e2, rfl, h2⟩ := step d l ρ w h
    have := N_forL I step last l ρ2 w2 h2
    simp [forL, bindM, e1, e2, this]
theorem R_forXL {Q : Xn → Env → W → Prop} (I : List D → Env → W → Prop) (step : ∀ d l ρ w, I (d :: l) ρ w → R (g d) ρ w fun _ ρ1 w1 => xb ρ1 w1 = none ∧ R body ρ1 w1 fun fl ρ2 w2 => fl = .nx ∧ I l ρ2 w2) (last : ∀ ρ w, I [] ρ w → R (g x) ρ w fun _ ρ1 w1 => R xb ρ1 w1 Q) :
    ∀ (pre : List D) (ρ : Env) (w : W), I pre ρ w → R (forXL g body xb (pre ++ x :: rest)) ρ w Q
  | [], ρ, w, h => by
    obtain ⟨_, ρ1, w1, e1, y, ρ2, w2, e2, q⟩ := last ρ w h
    exact ⟨y, ρ2, w2, by simp [forXL, bindM, alt, e1, e2], q⟩
  | d :: l, ρ, w, h => by
    obtain ⟨_, ρ1, w1, e1, n, fl, ρ2, w2, e2, rfl, h2⟩ := step d l ρ w h
    obtain ⟨y, ρ3, w3, e3, q⟩ := R_forXL I step last l ρ2 w2 h2
    exact ⟨y, ρ3, w3, by simp [forXL, bindM, alt, e1, n, e2, e3], q⟩
end
section
variable {ρ : Env} {w : W} {fa : M (List RV)} {fo : M RV} {dd : List D}
theorem N_call {den : List D → W → Option (RV × W)} (h : R fa ρ w fun rs ρ1 w1 => R (escAll rs) ρ1 w1 fun ds _ w2 => den (ds ++ dd) w2 = none) : callM den dd fa ρ w = none := N_bind (h.mono fun _ _ _ h => N_bind (h.mono fun _ _ _ h => N_run h))
theorem N_callX {den : List D → W → Option (Xn × W)} (h : R fa ρ w fun rs ρ1 w1 => R (escAll rs) ρ1 w1 fun ds _ w2 => den (ds ++ dd) w2 = none) : callX den dd fa ρ w = none := N_bind (h.mono fun _ _ _ h => N_bind (h.mono fun _ _ _ h => by simp [runX, h]))
theorem X_none {n : Nat} {g : M Xn} {ds : List D} (h : g (startE n ds) w = none) : denX n g ds w = none := by simp [denX, h]
/-- isinstance of a slot that holds a caught error -/
theorem R_isx {bt : String → Bool} {ic xi : List (Str × Bool)} {i : Nat} {cn : Str} {gs : List (Str × D)} {b : Bool} {Q : RV → Env → W → Prop} (h : ρ[i]? = some (some (.val (.exc cn gs)))) (hb : xi.lookup cn = some b) (q : Q (.sh (.bl b)) ρ w) : R (alt (isiM bt ic (varM i)) (op1M (isxD xi) (varM i))) ρ w Q := by
  have v : varM i ρ w = some (.sh (.exc cn gs), ρ, w) := by simp [varM, h]
  refine R_alt2 ?_ ⟨_, _, _, ?_, q⟩
  · simp [isiM, op1M, bindM, v, lift1, peek, isiD, tyB]
  · simp [op1M, bindM, v, lift1, peek, isxD, hb]
end
end FD

end sec_X0
section sec_X1
set_option maxRecDepth 100000
set_option maxHeartbeats 5000000
/-! X1: need_dependences where it raises. -/
namespace KL
open PySem L2 FD
open ST (Up up_eq setN mem_setN up_setN)
local instance tx1 : Tabl := { T := [] }
/-- an item that is no dependence -/
def NoDep (cs : List Nat) (d : D) : Prop := ∀ w, D_is_dependence [S cs, d] w = some (.sh (.bl false), w)
theorem numD_append (l m : List D) : ∀ n : Nat, numD n (l ++ m) = numD n l ++ numD (n + l.length) m := by
  induction l with
  | nil => intro n; simp [numD]
  | cons a l ih =>
    intro n
    simp only [List.cons_append, numD, ih, List.length_cons]
    rw [show n + 1 + l.length = n + (l.length + 1) by omega]
theorem N_seq {f g : M Fl} {ρ : FD.Env} {w : W} (h : R f ρ w fun fl ρ1 w1 => fl = .nx ∧ g ρ1 w1 = none) : seqM f g ρ w = none := by
  refine N_bind (h.mono fun fl ρ1 w1 q => ?_)
  obtain ⟨rfl, q⟩ := q
  exact q
abbrev cdN : M Bool := (orT (boolM (op2M eqD (varM 2) (pureM (.sh (.int 20))))) (notT (boolM (callM D_is_dependence [] (consA (varM 0) (consA (varM 3) (pureM [])))))))
abbrev bdN : M Fl := ifM cdN failM (pureM .nx)
abbrev xbN : M Xn := ifX cdN (raiseX "BadDependence" "at" (consA (varM 2) (pureM []))) failM
abbrev gN : D → M Unit := gTupM (gConsM (gNameM 2) (gConsM (gNameM 3) gNilM))
theorem R_gN {a b : D} {r0 r1 x2 x3 : Option Slot} {w : W} {Q : Unit → FD.Env → W → Prop} : R (gN (.tup [a, b])) [r0, r1, x2, x3] w Q ↔ Q () [r0, r1, some (.val a), some (.val b)] w := by
  simp [gN]
theorem need_dep_at {cs : List Nat} {ds : List (List Nat × Nat)} {d x : D} {rest : List D} {w : W} (e1 : isiD bt_list_tuple ic_list_tuple d = some true) (e2 : seqD d = some (ds.map depD ++ x :: rest)) (hC : Col cs) (hd : ∀ p ∈ ds, Dep cs p) (hk : ds.length ≤ 20) (hx : ds.length = 20 ∨ NoDep cs x) :
    D_need_dependences [S cs, d] w = none ∧ X_need_dependences [S cs, d] w = some (⟨"BadDependence", [("at", .int ds.length)]⟩, w) := by
  obtain ⟨I, hI⟩ : ∃ I : List D → FD.Env → W → Prop, ∀ l ρ w', I l ρ w' ↔ (w' = w ∧ ∃ (k : Nat) (es : List (List Nat × Nat)) (x2 x3 : Option Slot), l = (es.zipIdx k).map (fun p => .tup [.int p.2, depD p.1]) ∧ (∀ p ∈ es, Dep cs p) ∧ k + es.length = ds.length ∧ ρ = [some (.val (S cs)), some (.val d), x2, x3]) := ⟨_, fun _ _ _ => Iff.rfl⟩
  have nd : numD 0 (ds.map depD ++ x :: rest) = ((ds.zipIdx 0).map fun p => .tup [.int p.2, depD p.1]) ++ .tup [.int ds.length, x] :: numD (ds.length + 1) rest := by
    rw [numD_append, numD_map]
    simp [numD]
  have i0 : I ((ds.zipIdx 0).map fun p => .tup [.int p.2, depD p.1]) [some (.val (S cs)), some (.val d), none, none] w := (hI _ _ _).mpr ⟨rfl, 0, ds, none, none, rfl, hd, by omega, rfl⟩
  have cfal : ∀ (k : Nat) (p : List Nat × Nat) (w' : W), k < 20 → Dep cs p → ∀ Q : Bool → FD.Env → W → Prop, Q false [some (.val (S cs)), some (.val d), some (.val (.int k)), some (.val (depD p))] w' → R cdN [some (.val (S cs)), some (.val d), some (.val (.int k)), some (.val (depD p))] w' Q := fun k p w' hk hp Q q => by
    have ni : ¬ ((k : Int) = 20) := by omega
    simp [R_var, eqD_int, ni, is_dependence_eq hC hp]
    exact q
  have ctru : ∀ (w' : W) (Q : Bool → FD.Env → W → Prop), Q true [some (.val (S cs)), some (.val d), some (.val (.int ds.length)), some (.val x)] w' → R cdN [some (.val (S cs)), some (.val d), some (.val (.int ds.length)), some (.val x)] w' Q := fun w' Q q => by
    rcases hx with h | h
    · have ni : ((ds.length : Int) = 20) := by omega
      simp [R_var, eqD_int, ni]
      rw [← ni]
      exact q
    · by_cases ni : ((ds.length : Int) = 20)
      · simp [R_var, eqD_int, ni]
        rw [← ni]
        exact q
      · simp [R_var, eqD_int, ni, h w']
        exact q
  have step : ∀ dd l ρ w', I (dd :: l) ρ w' → R (gN dd) ρ w' fun _ ρ1 w1 => xbN ρ1 w1 = none ∧ R bdN ρ1 w1 fun fl ρ2 w2 => fl = .nx ∧ I l ρ2 w2 := fun dd l ρ w' h => by
    obtain ⟨rfl, k, es, x2, x3, el, hes, hke, rfl⟩ := (hI _ _ _).mp h
    cases es with
    | nil => simp at el
    | cons p es =>
      rw [List.zipIdx_cons, List.map_cons] at el
      obtain ⟨rfl, rfl⟩ := List.cons.inj el
      simp only [List.length_cons] at hke
      have hp := hes p List.mem_cons_self
      have go := cfal k p w' (by omega) hp
      refine R_gN.mpr ⟨N_bind (go _ rfl), ?_⟩
      refine R_bind.mpr (go _ ?_)
      simp
      exact (hI _ _ _).mpr ⟨rfl, k + 1, es, _, _, rfl, fun q hq => hes q (List.mem_cons_of_mem _ hq), by omega, rfl⟩
  constructor
  · refine D_none (N_seq ?_)
    simp [startE, R_var, e1]
    refine N_bind ?_
    simp [R_var, e2, nd]
    refine N_forL (xb := xbN) I step (fun ρ w' h => ?_) _ _ _ i0
    obtain ⟨rfl, k, es, x2, x3, el, hes, hke, rfl⟩ := (hI _ _ _).mp h
    exact R_gN.mpr (N_bind (ctru _ _ rfl))
  · refine X_eq (R_alt2 (N_bind ?_) ?_)
    · simp [startE, R_var, e1]
      rfl
    · simp [startE, R_var, e1, forX, e2, nd]
      refine R_forXL I step (fun ρ w' h => ?_) _ _ _ i0
      obtain ⟨rfl, k, es, x2, x3, el, hes, hke, rfl⟩ := (hI _ _ _).mp h
      refine R_gN.mpr (R_bind.mpr (ctru _ _ ?_))
      simp [R_var]
theorem need_dep_kind {cs : List Nat} {d : D} {w : W} (e1 : isiD bt_list_tuple ic_list_tuple d = some false) : D_need_dependences [S cs, d] w = none ∧ X_need_dependences [S cs, d] w = some (⟨"BadDependence", [("at", .non)]⟩, w) := by
  constructor
  · refine D_none (N_bind0 (N_bind ?_))
    simp [startE, R_var, e1]
    rfl
  · refine X_eq (R_alt1 ?_)
    simp [startE, R_var, e1]
end KL

end sec_X1
section sec_SO
set_option maxRecDepth 100000
set_option maxHeartbeats 5000000
/-! SO: the orders of texts by length. -/
namespace FD
open PySem L2 PySem.W PyProof.Rows
local instance tl5 : Tabl := { T := [] }
end FD

end sec_SO
section sec_P6
set_option maxRecDepth 100000
set_option maxHeartbeats 5000000
/-! P6: all sets, closed sets, equal schemes. -/
namespace KL
open PySem L2 FD
open ST (Up up_eq setN mem_setN up_setN)
local instance tl6 : Tabl := { T := [] }
def subsG (acc : List (List Nat)) (l : List Nat) : List (List Nat) := l.foldl (fun acc c => acc ++ acc.map (· ++ [c])) acc
def subsF (l : List Nat) : List (List Nat) := subsG [[]] l
theorem mem_subsG {x : List Nat} : ∀ {l : List Nat} {acc : List (List Nat)}, x ∈ subsG acc l ↔ ∃ a ∈ acc, ∃ s : List Nat, s.Sublist l ∧ x = a ++ s
  | [], acc => by
    constructor
    · intro h
      exact ⟨x, h, [], List.Sublist.slnil, by simp⟩
    · rintro ⟨a, h, s, hs, rfl⟩
      have : s = [] := by simpa using hs
      subst this
      simpa [subsG] using h
  | c :: l, acc => by
    show x ∈ subsG (acc ++ acc.map (· ++ [c])) l ↔ _
    rw [mem_subsG]
    constructor
    · rintro ⟨a, h, s, hs, rfl⟩
      rcases List.mem_append.mp h with h | h
      · exact ⟨a, h, s, hs.cons c, rfl⟩
      · obtain ⟨b, hb, rfl⟩ := List.mem_map.mp h
        exact ⟨b, hb, c :: s, hs.cons_cons c, by simp⟩
    · rintro ⟨a, h, s, hs, rfl⟩
      cases hs with
      | cons _ hs => exact ⟨a, List.mem_append_left _ h, s, hs, rfl⟩
      | @cons_cons s' _ _ hs => exact ⟨a ++ [c], List.mem_append_right _ (List.mem_map.mpr ⟨a, h, rfl⟩), s', hs, by simp⟩
theorem mem_subsF {x l : List Nat} : x ∈ subsF l ↔ x.Sublist l := by
  unfold subsF
  rw [mem_subsG]
  simp
theorem subs_len (l : List Nat) : ∀ acc : List (List Nat), (subsG acc l).length = acc.length * 2 ^ l.length := by
  induction l with
  | nil => intro acc; simp [subsG]
  | cons c l ih =>
    intro acc
    show (subsG (acc ++ acc.map (· ++ [c])) l).length = _
    rw [ih]
    simp only [List.length_append, List.length_map, List.length_cons, Nat.pow_succ]
    rw [← Nat.mul_two, Nat.mul_assoc, Nat.mul_comm 2]
theorem Col.in {cs : List Nat} (h : Col cs) : cs ∈ subsF [97, 98, 99, 100] := mem_subsF.mpr h.1
def sets (cs : List Nat) : List (List Nat) := (SK.byLen ((subsF (cs ++ [114])).map st)).map (·.cps.toList)
theorem sets_perm (cs : List Nat) : (sets cs).Perm (subsF (cs ++ [114])) := by
  have p : (SK.byLen ((subsF (cs ++ [114])).map st)).Perm ((subsF (cs ++ [114])).map st) := List.mergeSort_perm _ _
  have q := p.map (·.cps.toList)
  rw [List.map_map] at q
  have e : ((fun x : Str => x.cps.toList) ∘ st) = id := rfl
  rw [e, List.map_id] at q
  exact q
theorem mem_sets {cs x : List Nat} : x ∈ sets cs ↔ Set_ cs x := by
  rw [(sets_perm cs).mem_iff, mem_subsF]
  rfl
theorem sets_len {cs : List Nat} (h : Col cs) : (sets cs).length ≤ 32 := by
  rw [(sets_perm cs).length_eq]
  unfold subsF
  rw [subs_len]
  have := h.len
  have : 2 ^ (cs ++ [114]).length ≤ 2 ^ 5 := Nat.pow_le_pow_right (by decide) (by simp; omega)
  simpa using this
theorem map_S_cps (xs : List Str) : (xs.map (·.cps.toList)).map S = xs.map D.str := by
  rw [List.map_map]
  apply List.map_congr_left
  intro x _
  show D.str (st x.cps.toList) = D.str x
  congr 1
theorem textsD_S (xs : List (List Nat)) : textsD (.lst (xs.map S)) = some (xs.map st) := asStrs_S xs
theorem sets_of_eq {cs : List Nat} {w : W} (hC : Col cs) : D_sets_of [S cs] w = some (.fr (.lst ((sets cs).map S)), w) := by
  refine D_eq ?_
  have hc := hC.len
  simp [d_sets_of, startE, R_var, lit_e, lit_r, addD_S (show cs.length + [114].length ≤ 1000000 by simp; omega), R_iter, iterD_S, -List.map_append]
  obtain ⟨J, hJ⟩ : ∃ J : List Nat → FD.Env → W → Prop, ∀ rest ρ w', J rest ρ w' ↔ (w' = w ∧ ∃ acc x2, ρ = [some (.val (S cs)), some (.own (.lst (acc.map S))), x2, none] ∧ subsG acc rest = subsF (cs ++ [114]) ∧ acc.length * 2 ^ rest.length ≤ 32 ∧ rest.length ≤ 5 ∧ ∀ x ∈ acc, x.length + rest.length ≤ 5) := ⟨_, fun _ _ _ => Iff.rfl⟩
  refine R_forLm (fun c => S [c]) J ?_ ?_ (cs ++ [114]) _ _ ((hJ _ _ _).mpr ⟨rfl, [[]], _, rfl, rfl, ?_, by simp; omega, by simp; omega⟩)
  · intro c rest ρ w' h
    obtain ⟨rfl, acc, x2, rfl, h1, h2, h3, h4⟩ := (hJ _ _ _).mp h
    have h5 : acc.length ≤ 32 := Nat.le_trans (Nat.le_mul_of_pos_right _ (Nat.two_pow_pos _)) h2
    simp [R_own, R_lcM, R_escow, iterD]
    refine ⟨⟨rfl, by omega⟩, R_lcMap S (fun x => S (x ++ [c])) acc (fun x hx => ?_) ?_⟩
    · have := h4 x hx
      simp only [List.length_cons] at this
      simp [R_var, wipeE, addD_S (show x.length + [c].length ≤ 1000000 by simp; omega)]
    · have e : (acc.map S ++ acc.map fun x => S (x ++ [c])) = (acc ++ acc.map (· ++ [c])).map S := by simp
      have e2 : addD (.lst (acc.map S)) (.lst (acc.map fun x => S (x ++ [c]))) = some (.fr (.lst ((acc ++ acc.map (· ++ [c])).map S))) := by
        rw [← e]
        simp [addD]
        omega
      simp [R_lift2g, peek, slotD, restE, wipeE, e2, -List.map_append]
      refine (hJ _ _ _).mpr ⟨rfl, acc ++ acc.map (· ++ [c]), _, rfl, h1, ?_, ?_, ?_⟩
      · simp only [List.length_append, List.length_map]
        rw [List.length_cons, Nat.pow_succ] at h2
        rw [← Nat.mul_two, Nat.mul_assoc, Nat.mul_comm 2]
        exact h2
      · simp only [List.length_cons] at h3
        omega
      · intro x hx
        rcases List.mem_append.mp hx with hx | hx
        · have := h4 x hx
          simp only [List.length_cons] at this
          omega
        · obtain ⟨y, hy, rfl⟩ := List.mem_map.mp hx
          have := h4 y hy
          simp only [List.length_cons] at this
          simp
          omega
  · intro ρ w' h
    obtain ⟨rfl, acc, x2, rfl, h1, h2, h3, h4⟩ := (hJ _ _ _).mp h
    have e : acc = subsF (cs ++ [114]) := h1
    subst e
    simp [R_own, R_lift1g, peek, slotD, textsD_S]
    refine ⟨_, ⟨fun a ha => ?_, rfl⟩, by simp [outR, sets, map_S_cps]⟩
    have := h4 a ha
    simp at this
    rw [st_len]
    omega
  · have : 2 ^ (cs ++ [114]).length ≤ 2 ^ 5 := Nat.pow_le_pow_right (by decide) (by simp; omega)
    simpa using this
theorem Scheme_closure_eqD {cs : List Nat} {ds : List (List Nat × Nat)} {dd : D} (it : iterD dd = some (ds.map depD)) {l : List Nat} {w : W} (hC : Col cs) (hd : ∀ p ∈ ds, Dep cs p) (hl : Set_ cs l) : D_Scheme_closure [schD cs dd, S l] w = some (.sh (S (cl cs ds l)), w) := by
  refine D_eq ?_
  have hc := hC.len
  have h1 := hl.len hC
  have e1 : fldD "Scheme" "own_columns" (schD cs dd) = some (.sh (S cs)) := by simp [fldD]
  have e2 : fldD "Scheme" "own_dependences" (schD cs dd) = some (.sh dd) := by
    have n1 : (("own_dependences" : Str) == ("own_columns" : Str)) = false := by decide +kernel
    simp [fldD, List.lookup_cons, n1]
  simp [d_Scheme_closure, startE, R_var, e1, e2, need_set_eq (cs := cs) (a := l) (by omega) (by omega) (hl.up hC) (fun c hc => hl.subset hc), closure_of_eqD it hC hd hl, outR]
theorem Set_.cp {cs l : List Nat} (hC : Col cs) (h : Set_ cs l) : CpOk l := fun x hx => by
  have := hC.sub.subset (h.subset hx)
  simp [U] at this
  omega
noncomputable def closed (cs : List Nat) (ds : List (List Nat × Nat)) : List (List Nat) := (sets cs).filter fun l => decide (cl cs ds l = l)
theorem closed_sets_eqD {cs : List Nat} {ds : List (List Nat × Nat)} {dd : D} (it : iterD dd = some (ds.map depD)) {w : W} (hC : Col cs) (hd : ∀ p ∈ ds, Dep cs p) : D_Scheme_closed_sets [schD cs dd] w = some (.fr (.lst ((closed cs ds).map S)), w) := by
  refine D_eq ?_
  have e1 : fldD "Scheme" "own_columns" (schD cs dd) = some (.sh (S cs)) := by simp [fldD]
  simp [d_Scheme_closed_sets, startE, R_var, e1, sets_of_eq hC, R_lcM, iterD]
  refine ⟨⟨rfl, by have := sets_len hC; omega⟩, R_lcFil S (fun l => decide (cl cs ds l = l)) S (sets cs) (fun l hl => ?_) ?_⟩
  · have hs := mem_sets.mp hl
    have e2 : List.lookup ("closure" : Str) (schF cs dd) = none := by
      have n1 : (("closure" : Str) == ("own_columns" : Str)) = false := by decide +kernel
      have n2 : (("closure" : Str) == ("own_dependences" : Str)) = false := by decide +kernel
      simp [List.lookup_cons, n1, n2]
    have c1 := eqD_S (l := cl cs ds l) (m := l) (cl_set.cp hC) (hs.cp hC)
    have c2 := eqD_S (l := l) (m := l) (hs.cp hC) (hs.cp hC)
    by_cases h : cl cs ds l = l
    · simp [R_var, wipeE, R_self, e2, Scheme_closure_eqD it hC hd hs, c2, h]
    · simp [R_var, wipeE, R_self, e2, Scheme_closure_eqD it hC hd hs, c1, h]
  · simp [outR, closed]
end KL

end sec_P6
section sec_P7
set_option maxRecDepth 100000
set_option maxHeartbeats 5000000
/-! P7: equal schemes. -/
namespace KL
open PySem L2 FD
open ST (Up up_eq setN mem_setN up_setN)
local instance tl8 : Tabl := { T := [] }
theorem fld_c {cs : List Nat} {dd : D} : fldD "Scheme" "own_columns" (schD cs dd) = some (.sh (S cs)) := by simp [fldD]
theorem Col.cp {cs : List Nat} (hC : Col cs) : CpOk cs := fun x hx => by
  have := hC.mem x hx
  simp at this
  omega
theorem closed_cp {cs : List Nat} {ds : List (List Nat × Nat)} (hC : Col cs) : ∀ x ∈ closed cs ds, CpOk x := fun x hx => (mem_sets.mp (List.mem_filter.mp hx).1).cp hC
theorem no_m {cs : List Nat} {dd : D} : List.lookup ("closed_sets" : Str) (schF cs dd) = none := by
  have n1 : (("closed_sets" : Str) == ("own_columns" : Str)) = false := by decide +kernel
  have n2 : (("closed_sets" : Str) == ("own_dependences" : Str)) = false := by decide +kernel
  simp [List.lookup_cons, n1, n2]
/-- the schemes are equal -/
def EqS (cs : List Nat) (ds : List (List Nat × Nat)) (cs' : List Nat) (ds' : List (List Nat × Nat)) : Prop := cs = cs' ∧ closed cs ds = closed cs' ds'
open Classical in
theorem Scheme_eqSD {cs cs' : List Nat} {ds ds' : List (List Nat × Nat)} {dd dd' : D} (it : iterD dd = some (ds.map depD)) (it' : iterD dd' = some (ds'.map depD)) {w : W} (hC : Col cs) (hd : ∀ p ∈ ds, Dep cs p) (hC' : Col cs') (hd' : ∀ p ∈ ds', Dep cs' p) : D_Scheme_eq [schD cs dd, schD cs' dd'] w = some (.sh (.bl (decide (EqS cs ds cs' ds'))), w) := by
  refine D_eq ?_
  have e0 : isiD bt_Scheme ic_Scheme (schD cs' dd') = some true := by
    simp [isiD, ic_Scheme]
    try decide +kernel
  have e1 := neD_S hC.cp hC'.cp
  by_cases h : cs = cs'
  · subst h
    have e1 := neD_S hC.cp hC.cp
    simp [d_Scheme_eq, startE, R_var, e0, fld_c, e1, R_self, no_m, closed_sets_eqD it hC hd, closed_sets_eqD it' hC' hd', R_lift2g, peek, eqD_Ss (closed_cp hC) (closed_cp hC), outR, EqS]
  · simp [d_Scheme_eq, startE, R_var, e0, fld_c, e1, h, outR, EqS]
open Classical in
theorem Scheme_eqS {cs cs' : List Nat} {ds ds' : List (List Nat × Nat)} {w : W} (hC : Col cs) (hd : ∀ p ∈ ds, Dep cs p) (hC' : Col cs') (hd' : ∀ p ∈ ds', Dep cs' p) : D_Scheme_eq [sch cs ds, sch cs' ds'] w = some (.sh (.bl (decide (EqS cs ds cs' ds'))), w) := Scheme_eqSD rfl rfl hC hd hC' hd'
abbrev planD (cs : List Nat) (ds : List (List Nat × Nat)) : D := .tup [S cs, .tup (ds.map depD)]
end KL

end sec_P7
section sec_P1
set_option maxRecDepth 100000
set_option maxHeartbeats 5000000
/-! P1: the draws, plainly. -/
namespace KL
open PySem L2 FD

abbrev vi (i : Int) : Option Slot := some (.val (.int i))
abbrev vd : Option Slot := some (.val .draw)
theorem mulD_int {a b : Int} (h : a.natAbs.log2 + b.natAbs.log2 < 1000000) : mulD (.int a) (.int b) = some (.sh (.int (a * b))) := by simp [mulD, h]
theorem inner (t f p : Int) (hp : 0 < p) (hp2 : p < 2 ^ 31) (ht : 0 ≤ t) (ht2 : t < 2 ^ 40) {Q : Fl → FD.Env → W → Prop} {w : W} (hq : ∀ b x, 0 ≤ b → b < 2 ^ 60 → Q .nx [vd, vi t, vi f, vi p, vi b, x] w) :
    ∀ (cs : List Int) (b : Int) (x : Option Slot), (∀ c ∈ cs, 0 ≤ c ∧ c < 2 ^ 31) → 0 ≤ b → b < 2 ^ 60 →
    R (forL (gNameM 5) (setM' 4 (op2M (intD modI) (bM intFD (consA (op2M addD (op2M addD (op2M mulD (varM 4) (pureM (.sh (.int 48271)))) (varM 5)) (varM 1)) (pureM []))) (varM 3))) (cs.map D.int)) [vd, vi t, vi f, vi p, vi b, x] w Q := by
  intro cs b x hcs hb hb2
  refine R_forL (fun ds ρ w' => w' = w ∧ ∃ b x, ∃ cs : List Int, ds = cs.map D.int ∧ (∀ c ∈ cs, 0 ≤ c ∧ c < 2 ^ 31) ∧ 0 ≤ b ∧ b < 2 ^ 60 ∧ ρ = [vd, vi t, vi f, vi p, vi b, x]) ?_ ?_ _ _ _ ⟨rfl, b, x, cs, rfl, hcs, hb, hb2, rfl⟩
  · rintro d ds ρ w' ⟨rfl, b, x, cs, e, hcs, hb, hb2, rfl⟩
    cases cs with
    | nil => cases e
    | cons c cs =>
      cases e
      have l1 := lg hb hb2 (by decide)
      have l2 : (48271 : Int).natAbs.log2 = 15 := by decide
      have hm : mulD (.int b) (.int 48271) = some (.sh (.int (b * 48271))) := mulD_int (by omega)
      simp [R_var, R_liftN, peeks, peek, intFD, intD, modI, hp, hm, addD]
      have h1 := Int.emod_nonneg (b * 48271 + c + t) (by omega : p ≠ 0)
      have h2 := Int.emod_lt_of_pos (b * 48271 + c + t) hp
      exact ⟨_, _, cs, rfl, fun c' h => by have := hcs c' (List.mem_cons_of_mem _ h); omega, h1, by omega, rfl, rfl⟩
  · rintro ρ w' ⟨rfl, b, x, cs, e, _, hb, hb2, rfl⟩
    exact hq b x hb hb2
structure Ok (w : W) : Prop where
  t0 : 0 ≤ w.turn
  t1 : w.turn < 2 ^ 39
  cs : ∀ c ∈ w.cells, 0 ≤ c ∧ c < 2 ^ 31
theorem fdivI_ok {a b : Int} (h : 0 < b) (h2 : b < 2 ^ 100) : fdivI a b = some (.sh (.int (a / b))) := by
  have l := lg (i := b) (n := 100) (by omega) h2 (by decide)
  simp [fdivI, h]
  omega
theorem pow32 (n : Nat) : (2 : Int) ^ (n + 32) = 2 ^ n * 4294967296 := by
  rw [Int.pow_add]
  rfl
theorem mixed (w : W) (h : Ok w) : Ran (D_law_mixed [.draw] w) fun r w' => ∃ x, r = .sh (.int x) ∧ w' = { w with turn := w.turn + 1 } := by
  refine D_run ?_
  have t0 := h.t0
  have t1 := h.t1
  have l1 : (61441 : Int).natAbs.log2 = 15 := by decide
  have l2 := lg (i := w.turn + 1) (n := 40) (by omega) (by omega) (by decide)
  have hm : mulD (.int 61441) (.int (w.turn + 1)) = some (.sh (.int (61441 * (w.turn + 1)))) := mulD_int (by omega)
  simp [d_law_mixed, R_var, addD, startE, R_iterF, iterD]
  refine R_forL (fun ds ρ w' => w' = { w with turn := w.turn + 1 } ∧ ∃ f x3 x4 x5, ∃ ps : List Int, ds = ps.map D.int ∧ ps.length ≤ 4 ∧ (∀ p ∈ ps, 1000 < p ∧ p < 2 ^ 31) ∧ 0 ≤ f ∧ f < 2 ^ (32 * (4 - ps.length)) ∧ ρ = [vd, vi (w.turn + 1), vi f, x3, x4, x5]) ?_ ?_ _ _ _ ⟨rfl, 0, none, none, none, [2147483629, 2147483587, 2147483579, 2147483563], rfl, by decide, by decide, by decide, by decide, rfl⟩
  · rintro d ds ρ w' ⟨rfl, f, x3, x4, x5, ps, e, hl, hps, hf, hf2, rfl⟩
    cases ps with
    | nil => cases e
    | cons p ps =>
      cases e
      obtain ⟨hp1, hp2⟩ := hps p List.mem_cons_self
      have fd := fdivI_ok (a := p) (b := 19) (by decide) (by decide)
      simp [R_var, intD, hm, fd, addD]
      refine inner _ _ _ (by omega) hp2 (by omega) (by omega) (fun b x hb hb2 => ?_) w.cells _ _ h.cs (by omega) (by omega)
      have pw : powI b 5 = some (.sh (.int (b ^ 5))) := by
        have hb3 : b.natAbs < 18446744073709551616 := by omega
        simp [powI, hb3]
      have lf : f.natAbs.log2 < 129 := lg hf (Int.lt_of_lt_of_le hf2 (by
        have : 32 * (4 - (p :: ps).length) ≤ 129 := by omega
        exact_mod_cast Nat.pow_le_pow_right (by decide) this)) (by decide)
      have lM : (2147483647 : Int).natAbs.log2 = 30 := by decide
      have hm2 : mulD (.int f) (.int 2147483647) = some (.sh (.int (f * 2147483647))) := mulD_int (by omega)
      have hp0 : 0 < p := by omega
      simp [R_var, R_liftN, peeks, peek, intFD, intD, pw, modI, hp0, hm2, addD]
      have g1 := Int.emod_nonneg (b ^ 5) (by omega : p ≠ 0)
      have g2 := Int.emod_lt_of_pos (b ^ 5) hp0
      have eP : 32 * (4 - ps.length) = 32 * (4 - (p :: ps).length) + 32 := by
        simp only [List.length_cons] at hl ⊢
        omega
      refine ⟨_, _, _, _, ps, rfl, by simp only [List.length_cons] at hl; omega, fun q hq => hps q (List.mem_cons_of_mem _ hq), ?_, ?_, rfl, rfl, rfl, rfl⟩
      · omega
      · rw [eP, pow32]
        generalize (2 : Int) ^ (32 * (4 - (p :: ps).length)) = PP at hf2 ⊢
        omega
  · rintro ρ w' ⟨rfl, f, x3, x4, x5, ps, e, _, _, _, _, rfl⟩
    simp [R_var, outR]
end KL

end sec_P1
section sec_P2
set_option maxRecDepth 100000
set_option maxHeartbeats 5000000
/-! P2: take, pick. -/
namespace KL
open PySem L2 FD
variable {sT : List D}
/-- b: how many more draws there is room for -/
structure Okb (b : Nat) (w : W) (sT : List D := []) : Prop where
  t0 : 0 ≤ w.turn
  t1 : w.turn + b < 2 ^ 39
  cs : ∀ c ∈ w.cells, 0 ≤ c ∧ c < 2 ^ 31
  wi : w.wide.length < 1000000
  st : w.st = sT
theorem Okb.ok {b : Nat} {w : W} (h : Okb b w sT) : Ok w := ⟨h.t0, by have := h.t1; omega, h.cs⟩
theorem Okb.mono {b c : Nat} {w : W} (h : Okb b w sT) (hc : c ≤ b) : Okb c w sT := ⟨h.t0, by have := h.t1; omega, h.cs, h.wi, h.st⟩
theorem R_take {b : Nat} {w : W} {n : Int} {Q : RV → W → Prop} (h : Okb (b + 1) w sT) (hn : 0 < n) (hn2 : n < 2 ^ 100) (q : ∀ k w', 0 ≤ k → k < n → Okb b w' sT → Q (.sh (.int k)) w') : Ran (D_law_take [.draw, .int n] w) Q := by
  refine D_run ?_
  have fin : ∀ (x : Int) w', Okb b w' sT → Q (.sh (.int (x % n))) w' := fun x w' h => q _ _ (Int.emod_nonneg _ (by omega)) (Int.emod_lt_of_pos _ hn) h
  have fd := fun a => fdivI_ok (a := a) hn hn2
  have t0 := h.t0
  have t1 := h.t1
  by_cases hr : w.rest = 0
  · cases hw : w.wide with
    | nil =>
      obtain ⟨r, w', e, x, rfl, rfl⟩ := mixed w h.ok
      simp [d_law_take, startE, R_var, eqD_int, hr, hw, e, R_liftN, peeks, peek, intFD, intD, modI, hn, fd, outR]
      exact fin _ _ ⟨by simp; omega, by simp; omega, h.cs, by simp, h.st⟩
    | cons x xs =>
      have hx : xs.length < 1000000 := by
        have := h.wi
        rw [hw] at this
        simp at this
        omega
      simp [d_law_take, startE, R_var, eqD_int, hr, hw]
      refine R_drPop ?_
      simp [R_var]
      refine ⟨x, xs, hw, hx, ?_⟩
      simp [R_var, R_liftN, peeks, peek, intFD, intD, modI, hn, fd, outR]
      exact fin _ _ ⟨h.t0, by simp; omega, h.cs, hx, h.st⟩
  · simp [d_law_take, startE, R_var, eqD_int, hr, R_liftN, peeks, peek, intFD, intD, modI, hn, fd, outR]
    exact fin _ _ ⟨h.t0, by simp; omega, h.cs, h.wi, h.st⟩
end KL

end sec_P2
section sec_LM2
set_option maxRecDepth 100000
set_option maxHeartbeats 5000000
/-! LM2: a lambda's run, as a promise to any caller. -/
namespace FD
open PySem L2
open PyProof.Rows (envOfC)
variable [Tabl]
/-- the lambda has captured names and globals only -/
structure LamN (l : LamSyn) : Prop where
  kind : l.scope.kind = .function
  co : l.scope.isCoroutine = false
  gen : l.scope.isGenerator = false
  own : ∀ y ∈ l.scope.names, y.2 ≠ .local ∧ y.2 ≠ .cell
section
variable {P : Program} {w : World} {K : PySem.W.Frag} {mg : Str → Option Value} {base : Heap} {l : LamSyn} {cl : List (Str × Addr)} {f c' : Addr} {A : Around} {outer : List PySem.Env} {s : Shared} {H : Hp} {CX : CXT} {E : XK} {vs : List V}
end
end FD

end sec_LM2
section sec_LM3
set_option maxRecDepth 100000
set_option maxHeartbeats 5000000
/-! LM3: a lambda's promise, and x() where x holds a lambda. -/
namespace FD
open PySem L2
open PyProof.Rows (envOfC)
variable [Tabl]
/-- the cells that a lambda looks at -/
def cellsOf (cl : List (Str × Addr)) : List Addr := (cl.map (·.1)).filterMap fun x => cl.lookup x
theorem cells_of {cl : List (Str × Addr)} {c : Addr} (h : c ∈ cellsOf cl) : ∃ x, cl.lookup x = some c := by
  obtain ⟨x, _, e⟩ := List.mem_filterMap.mp h
  exact ⟨x, e⟩
section
variable {P : Program} {w : World} {K : PySem.W.Frag} {mg : Str → Option Value} {base : Heap} {l : LamSyn} {cl : List (Str × Addr)} {vs : List V} {H H' : Hp} {h B h' : Heap} {O : List Addr} {fs C : List Addr}
theorem LCells.still (k : HOk P w H h) (ck : LCells H l cl vs) : Still (cellsOf cl) H := still_of k fun a q => by
  obtain ⟨x, e⟩ := cells_of q
  obtain ⟨o, v, e1, e2⟩ := ck.at_ x a e
  exact ⟨o, e1, fun vs z => by rw [e2] at z; cases z⟩
theorem LCells.dis (ck : LCells (vis O H) l cl vs) : ∀ a ∈ cellsOf cl, a ∉ O := fun a q => by
  obtain ⟨x, e⟩ := cells_of q
  obtain ⟨o, v, e1, _⟩ := ck.at_ x a e
  exact (vis_some e1).1
end
/-- what a lambda promises -/
def spLam (c : Ct) (l : LamSyn) (den : List D → W → Option (RV × W)) (cl : List (Str × Addr)) (vs : List V) (H : Hp) (Q : VK) : Prop := ∃ dr O0 w ds r w', (∀ a ∈ dr.as, a ∈ O0) ∧ (∀ a ∈ O0, ∃ o, H a = some o ∧ NT o) ∧ DS c dr w O0 H ∧ LCells (vis O0 H) l cl vs ∧ RepAll c dr.da (vis O0 H) vs ds ∧ (lfs ds = true ∧ lfs w.st = true) ∧ den ds w = some (r, w') ∧
  ∀ v H', Kp dr H H' → DS c dr w' (hidO r v O0) H' → RepN c dr.da O0 H H' r v → Q v H'
def spLamX (c : Ct) (l : LamSyn) (den : List D → W → Option (Xn × W)) (cl : List (Str × Addr)) (vs : List V) (H : Hp) (E : XK) : Prop := ∃ dr O0 w ds x w', (∀ a ∈ dr.as, a ∈ O0) ∧ (∀ a ∈ O0, ∃ o, H a = some o ∧ NT o) ∧ DS c dr w O0 H ∧ LCells (vis O0 H) l cl vs ∧ RepAll c dr.da (vis O0 H) vs ds ∧ (lfs ds = true ∧ lfs w.st = true) ∧ den ds w = some (x, w') ∧
  ∀ H' cls d, Kp dr H H' → DS c dr w' O0 H' → XO c dr.da O0 H' x cls d → E cls d H'
structure LamRun (P : Program) (w : World) (K : PySem.W.Frag) (mg : Str → Option Value) (base : Heap) (k : Nat) (l : LamSyn) (den : List D → W → Option (RV × W)) : Prop where
  run : ∀ (A : Around) (outer : List PySem.Env) (s : Shared) (H : Hp) (f c' : Addr) (cl : List (Str × Addr)) (pm ctv : Value) (vs : List V) (Q : VK), Room k A → Env0 P w K mg base A outer s H → H f = some (StO f (lamObj l cl pm c' ctv)) → H c' = some (LamX.CodeO c' l.q) → spLam ⟨K, mg⟩ l den cl vs H Q →
    codeAny (model P w) A (.call (.ref f) ⟨[], []⟩) (CR CX0 outer P w H s Q E0) s
structure LamRunX (P : Program) (w : World) (K : PySem.W.Frag) (mg : Str → Option Value) (base : Heap) (k : Nat) (l : LamSyn) (den : List D → W → Option (Xn × W)) : Prop where
  run : ∀ (A : Around) (outer : List PySem.Env) (s : Shared) (H : Hp) (f c' : Addr) (cl : List (Str × Addr)) (pm ctv : Value) (vs : List V) (Q : VK) (E : XK), Room k A → Env0 P w K mg base A outer s H → H f = some (StO f (lamObj l cl pm c' ctv)) → H c' = some (LamX.CodeO c' l.q) → spLamX ⟨K, mg⟩ l den cl vs H E →
    codeAny (model P w) A (.call (.ref f) ⟨[], []⟩) (CR (L2.CX P w) outer P w H s Q E) s
section
variable {P : Program} {w : World} {K : PySem.W.Frag} {mg : Str → Option Value} {base : Heap} {l : LamSyn} {k : Nat}
end
/-! ### x() -/
structure LamT (P : Program) (w : World) (K : PySem.W.Frag) (mg : Str → Option Value) (base : Heap) (k : Nat) (tab : Nat → List D → W → Option (RV × W)) : Prop where
  all : ∀ n l, Tabl.L n = some l → LamRun P w K mg base k l (tab n)
structure LamTX (P : Program) (w : World) (K : PySem.W.Frag) (mg : Str → Option Value) (base : Heap) (k : Nat) (tab : Nat → List D → W → Option (Xn × W)) : Prop where
  all : ∀ n l, Tabl.L n = some l → LamRunX P w K mg base k l (tab n)
theorem LamRun.mono {P : Program} {w : World} {K : PySem.W.Frag} {mg : Str → Option Value} {base : Heap} {k j : Nat} {l : LamSyn} {den : List D → W → Option (RV × W)} (h : LamRun P w K mg base k l den) (hk : k ≤ j) : LamRun P w K mg base j l den :=
  ⟨fun A outer s H f c' cl pm ctv vs Q hr => h.run A outer s H f c' cl pm ctv vs Q (hr.mono hk)⟩
theorem LamRunX.mono {P : Program} {w : World} {K : PySem.W.Frag} {mg : Str → Option Value} {base : Heap} {k j : Nat} {l : LamSyn} {den : List D → W → Option (Xn × W)} (h : LamRunX P w K mg base k l den) (hk : k ≤ j) : LamRunX P w K mg base j l den :=
  ⟨fun A outer s H f c' cl pm ctv vs Q E hr => h.run A outer s H f c' cl pm ctv vs Q E (hr.mono hk)⟩
section
variable {X : Cx} {k j i : Nat} {a : Str} {p1 p2 : Pos}
end
end FD

end sec_LM3
section sec_LM4
set_option maxRecDepth 100000
set_option maxHeartbeats 5000000
/-! LM4: g(lambda: e, ..): the lambda and the cells are tracked for the call alone. -/
namespace FD
open PySem L2
open PyProof.Rows (envOfC)
variable [Tabl]
section
variable {c : Ct} {F : Fm} {O O' : List Addr} {ρ ρ' : Env} {w w' : W} {σ : L2.St} {H H' : Hp} {a : Addr} {φ : Heap → Prop}
theorem noX {q : Str} (S : SR c F O ρ w σ H) (e : H a = some (LamX.CodeO a q)) (h : a ∈ O) : False := by
  obtain ⟨o, h1, h2⟩ := S.trk a h
  rw [e] at h1
  cases h1
  exact h2 [] rfl
end
/-- a def that is called with a lambda -/
structure CalR (X : Cx) (x : Str) (n : Nat) (den : List D → W → Option (RV × W)) : Prop where
  ex : ∃ g, X.mg x = some (.ref g) ∧ PySem.W.keepIn X.K (.ref g) = true ∧ ∀ (s : Shared) (H : Hp) (us : List Value) (vs : List V) (Q : VK), X.K.In s.heap → Env0 X.prog X.w X.K X.mg X.base X.A X.stack s H → Vals vs us → spD (ct X) n den vs H Q E0 →
    codeAny (model X.prog X.w) X.A (.call (.ref g) ⟨us, []⟩) (CR CX0 X.stack X.prog X.w H s Q E0) s
section
variable {X : Cx} {k j n : Nat} {x : Str} {den : List D → W → Option (RV × W)}
theorem CalG.r (cl : CalG X.prog X.w X.K X.mg X.base k x n den) (hr : Room j X.A) (hG : X.A.guards = some []) (hk : k ≤ j := by decide) : CalR X x n den := by
  obtain ⟨f, fd, ps, FO, hm, kp, b⟩ := cl.ex
  refine ⟨f, hm, kp, fun s H us vs Q kin e0 r h => ?_⟩
  have b1 := b s us kin (by rw [List.append_nil, ← r.length]; exact FO.len vs H Q E0 h)
  rw [List.append_nil] at b1
  exact FO.runs X.A (hr.mono hk) hG X.stack s H ⟨us, []⟩ us vs Q E0 e0 b1 r h
theorem CalD.r (cl : CalD X.prog X.w X.K X.mg X.base k x n [] den) (hr : Room j X.A) (hk : k ≤ j := by decide) : CalR X x n den := by
  obtain ⟨f, fd, ps, ds, dvs, FO, hm, kp, b, d, rd⟩ := cl.ex
  cases rd ⟨none, [], fun _ => none⟩ fun _ => none
  cases d
  refine ⟨f, hm, kp, fun s H us vs Q kin e0 r h => ?_⟩
  have b1 := b s us kin (by rw [List.append_nil, ← r.length]; exact FO.len vs H Q E0 h)
  rw [List.append_nil] at b1
  exact FO.run X.A X.stack s H ⟨us, []⟩ us vs Q E0 (hr.mono hk) e0 b1 r h
end
def offL : RV → M RV
  | .sh d => fun ρ w => if lf d = true ∧ lfs w.st = true then some (.sh d, ρ, w) else none
  | .fr d => fun ρ w => if lf d = true ∧ lfs w.st = true then some (.fr d, ρ, w) else none
  | .ow _ => failM
  | .ob _ => failM
def lamCall (i : Nat) (js : List Nat) (den : List D → W → Option (RV × W)) (fa : M (List RV)) : M RV := bindM fa fun rs => bindM (escAll rs) fun ds => bindM (escAll (js.map RV.ow)) fun cs =>
  if lfs cs = true then bindM (runD den (.lam i cs :: ds)) offL else failM
theorem offL_some {r r' : RV} {ρ ρ' : Env} {w w' : W} (h : offL r ρ w = some (r', ρ', w')) : r' = r ∧ ρ' = ρ ∧ w' = w ∧ ((∃ d, r = .sh d ∧ lf d = true) ∨ ∃ d, r = .fr d ∧ lf d = true) ∧ lfs w.st = true := by
  cases r with
  | sh d =>
    unfold offL at h
    dsimp only at h
    split at h
    · rename_i l
      cases h
      exact ⟨rfl, rfl, rfl, .inl ⟨d, rfl, l.1⟩, l.2⟩
    · cases h
  | fr d =>
    unfold offL at h
    dsimp only at h
    split at h
    · rename_i l
      cases h
      exact ⟨rfl, rfl, rfl, .inr ⟨d, rfl, l.1⟩, l.2⟩
    · cases h
  | ow i => cases h
  | ob i => cases h
/-- what a lambda at its making needs -/
structure LamAt (X : Cx) (i : Nat) (l : LamSyn) (js : List Nat) (params : Arguments) (body : Expr) (scope : Scope) : Prop where
  tab : Tabl.L i = some l
  q : X.env.qual ++ "<lambda>" = l.q
  pa : l.params = params
  bo : l.body = body
  sc : l.scope = scope
  nm : js.map (fun j => X.N[j]?) = l.N.map some
  fr : ∀ y ∈ l.N, scope.names.lookup y = some .free
  ls : LamX.LamS X.env.scope scope
  df : defaultsOf params X.env = ([], [])
  fn : ∀ y, X.fn y = true
section
variable {X : Cx} {i n : Nat} {x : Str} {den : List D → W → Option (RV × W)} {fa : M (List RV)} {l : LamSyn} {js : List Nat} {params : Arguments} {body : Expr} {scope : Scope} {es : List Expr} {p lpos pos : Pos} {c P : Addr}
end
end FD

end sec_LM4
section sec_LM5
/-! LM5: where a lambda stands in the text. -/
namespace FD
open PySem L2
end FD

end sec_LM5
section sec_EV8
set_option maxRecDepth 100000
set_option maxHeartbeats 5000000
/-! EV8: rules for lambdas, for lists that are lent, for methods of lists. -/
namespace FD
open PySem L2
local instance tl8e : Tabl := { T := [] }
section
variable {ρ : Env} {w : W} {fa : M (List RV)} {fo fe : M RV}
@[simp] theorem R_callB {den : List D → W → Option (RV × W)} {Q : RV → Env → W → Prop} : R (callB den fa) ρ w Q ↔ R fa ρ w fun rs ρ1 w1 => ∃ ds, peeksV ρ1 rs = some ds ∧ Ran (den ds w1) fun r w' => ∃ d, r = .sh d ∧ ptD d = true ∧ w'.st = [] ∧ Q r ρ1 w' := by
  unfold callB
  rw [R_bind]
  constructor <;> intro h <;> refine h.mono fun rs ρ1 w1 h => ?_
  · obtain ⟨r, ρ2, w2, e, q⟩ := h
    obtain ⟨ds, d, w', h1, h2, h3, h4, ez⟩ := callB_some e
    cases ez
    exact ⟨ds, h1, .sh d, _, h2, d, rfl, h3, h4, q⟩
  · obtain ⟨ds, h1, r, w', h2, d, rfl, h3, h4, q⟩ := h
    exact ⟨.sh d, ρ1, w', by simp [h1, h2, h3, h4], q⟩
@[simp] theorem R_isLst {r : RV} {Q : Unit → Env → W → Prop} : R (isLst r) ρ w Q ↔ ∃ ds, peek ρ w r = some (.lst ds) ∧ Q () ρ w := by
  constructor
  · rintro ⟨a, ρ1, w1, e, q⟩
    unfold isLst at e
    split at e
    · rename_i ds h
      cases e
      exact ⟨ds, h, q⟩
    · cases e
  · rintro ⟨ds, h, q⟩
    exact ⟨(), ρ, w, by simp [isLst, h], q⟩
@[simp] theorem R_lm {g : D → D → Option RV} {Q : RV → Env → W → Prop} : R (lmM g fo fe) ρ w Q ↔ R fo ρ w fun r1 ρ1 w1 => ∃ ds, peek ρ1 w1 r1 = some (.lst ds) ∧ R fe ρ1 w1 fun r2 ρ2 w2 => R (lift2 g r1 r2) ρ2 w2 Q := by
  unfold lmM
  simp
@[simp] theorem R_offLsh {d : D} {Q : RV → Env → W → Prop} : R (offL (.sh d)) ρ w Q ↔ lf d = true ∧ lfs w.st = true ∧ Q (.sh d) ρ w := by
  constructor
  · rintro ⟨a, ρ1, w1, e, q⟩
    obtain ⟨h1, h2, h3, h4, h5⟩ := offL_some e
    subst h1 h2 h3
    rcases h4 with ⟨d', e, l⟩ | ⟨d', e, l⟩
    · cases e
      exact ⟨l, h5, q⟩
    · cases e
  · rintro ⟨l, l2, q⟩
    exact ⟨_, _, _, by simp [offL, l, l2], q⟩
/-- g(lambda: e, ..), the captured slots being js -/
@[simp] theorem R_lamCall {i : Nat} {js : List Nat} {den : List D → W → Option (RV × W)} {Q : RV → Env → W → Prop} : R (lamCall i js den fa) ρ w Q ↔ R fa ρ w fun rs ρ1 w1 => R (escAll rs) ρ1 w1 fun ds ρ2 w2 => R (escAll (js.map RV.ow)) ρ2 w2 fun cs ρ3 w3 => lfs cs = true ∧ Ran (den (.lam i cs :: ds) w3) fun r w' => R (offL r) ρ3 w' Q := by
  unfold lamCall
  rw [R_bind]
  refine ⟨fun h => h.mono fun rs ρ1 w1 h => ?_, fun h => h.mono fun rs ρ1 w1 h => ?_⟩
  · refine (R_bind.mp h).mono fun ds ρ2 w2 h => (R_bind.mp h).mono fun cs ρ3 w3 h => ?_
    by_cases l : lfs cs = true
    · rw [if_pos l] at h
      exact ⟨l, R_runD.mp (R_bind.mp h)⟩
    · rw [if_neg l] at h
      obtain ⟨_, _, _, e, _⟩ := h
      cases e
  · refine R_bind.mpr (h.mono fun ds ρ2 w2 h => R_bind.mpr (h.mono fun cs ρ3 w3 h => ?_))
    rw [if_pos h.1]
    exact R_bind.mpr (R_runD.mpr h.2)
@[simp] theorem R_opOX {cn : Str} {den : List D → W → Option (Xn × W)} {Q : Xn → Env → W → Prop} : R (opOX cn den fo fe) ρ w Q ↔ R fo ρ w fun r1 ρ1 w1 => R fe ρ1 w1 fun r2 ρ2 w2 => R (insR cn r1) ρ2 w2 fun d1 ρ3 w3 => R (insR cn r2) ρ3 w3 fun d2 ρ4 w4 => RanX (den [d1, d2] w4) fun x w' => Q x ρ4 w' := by
  unfold opOX
  simp only [R_bind, R_runX]
end
end FD

end sec_EV8
section sec_EV9
set_option maxRecDepth 100000
set_option maxHeartbeats 5000000
/-! EV9: rules for lent lists. -/
namespace FD
open PySem L2
local instance tev9 : Tabl := { T := [] }
end FD

end sec_EV9
section sec_EV10
set_option maxRecDepth 100000
set_option maxHeartbeats 5000000
/-! EV10: rules for objects of the store and for what is lent. -/
namespace FD
open PySem L2
local instance tl10 : Tabl := { T := [] }
def obR : RV → RV
  | .sh (.obj k) => .ob k
  | r => r
@[simp] theorem obR_obj {k : Nat} : obR (.sh (.obj k)) = .ob k := rfl
@[simp] theorem obR_ins {c : Str} {gs : List (Str × D)} : obR (.sh (.ins c gs)) = .sh (.ins c gs) := rfl
@[simp] theorem obR_lst {ds : List D} : obR (.sh (.lst ds)) = .sh (.lst ds) := rfl
@[simp] theorem obR_tup {ds : List D} : obR (.sh (.tup ds)) = .sh (.tup ds) := rfl
@[simp] theorem obR_str {x : Str} : obR (.sh (.str x)) = .sh (.str x) := rfl
@[simp] theorem obR_int {x : Int} : obR (.sh (.int x)) = .sh (.int x) := rfl
@[simp] theorem obR_bl {x : Bool} : obR (.sh (.bl x)) = .sh (.bl x) := rfl
@[simp] theorem obR_non : obR (.sh .non) = .sh .non := rfl
@[simp] theorem obR_ow {i : Nat} : obR (.ow i) = .ow i := rfl
@[simp] theorem obR_fr {d : D} : obR (.fr d) = .fr d := rfl
section
variable {ρ : Env} {w : W} {fo fe fa : M RV} {fs : M (List RV)} {cn m f : Str} {den : List D → W → Option (RV × W)} {dd ds : List D} {js : List Nat}
@[simp] theorem R_obM {Q : RV → Env → W → Prop} : R (obM fo) ρ w Q ↔ R fo ρ w fun r ρ1 w1 => Q (obR r) ρ1 w1 := by
  unfold obM
  rw [R_bind]
  constructor <;> intro h <;> refine h.mono fun r ρ1 w1 h => ?_
  · revert h
    unfold obR
    split <;> intro h <;> simpa using h
  · revert h
    unfold obR
    split <;> intro h <;> simpa using h
@[simp] theorem R_escob {d : D} {Q : D → Env → W → Prop} : R (escR (obR (.sh d))) ρ w Q ↔ Q d ρ w := by
  cases d <;> exact R_some rfl
theorem selfP_iff {k : Nat} {d : D} {ρ2 : Env} {w2 : W} : selfP cn (.ob k) ρ w = some (d, ρ2, w2) ↔ (∃ gs, w.st[k]? = some (.ins cn gs)) ∧ d = .obj k ∧ ρ2 = ρ ∧ w2 = w := by
  unfold selfP
  dsimp only
  constructor
  · intro e
    split at e
    · rename_i c' gs eg
      split at e
      · rename_i ec
        cases e
        subst ec
        exact ⟨⟨gs, eg⟩, rfl, rfl, rfl⟩
      · cases e
    · cases e
  · rintro ⟨⟨gs, e⟩, rfl, rfl, rfl⟩
    rw [e]
    simp
theorem putO_iff {k : Nat} {d : D} {fl : Fl} {ρ2 : Env} {w2 : W} : putO cn f d (.ob k) ρ w = some (fl, ρ2, w2) ↔ ∃ gs, w.st[k]? = some (.ins cn gs) ∧ gs.length < 900 ∧ fl = .nx ∧ ρ2 = ρ ∧ w2 = { w with st := w.st.set k (.ins cn (putD f d gs)) } := by
  unfold putO
  dsimp only
  constructor
  · intro e
    split at e
    · rename_i c' gs eg
      split at e
      · rename_i ec
        obtain ⟨ec, el⟩ := ec
        cases e
        subst ec
        exact ⟨gs, eg, el, rfl, rfl, rfl⟩
      · cases e
    · cases e
  · rintro ⟨gs, e, l, rfl, rfl, rfl⟩
    rw [e]
    simp [l]
@[simp] theorem R_propO {Q : RV → Env → W → Prop} : R (propO cn den fo) ρ w Q ↔ R fo ρ w fun r ρ1 w1 => ∃ k gs, r = .ob k ∧ w1.st[k]? = some (.ins cn gs) ∧ Ran (den [.obj k] w1) fun r' w' => Q r' ρ1 w' := by
  unfold propO
  rw [R_bind]
  constructor <;> intro h0 <;> refine h0.mono fun r ρ1 w1 h1 => ?_
  · rw [R_bind] at h1
    obtain ⟨d, ρ2, w2, e, h2⟩ := h1
    cases r with
    | ob k =>
      obtain ⟨⟨gs, eg⟩, rfl, rfl, rfl⟩ := selfP_iff.mp e
      exact ⟨k, gs, rfl, eg, by simpa using h2⟩
    | _ => cases e
  · obtain ⟨k, gs, rfl, e, h2⟩ := h1
    rw [R_bind]
    exact ⟨.obj k, ρ1, w1, selfP_iff.mpr ⟨⟨gs, e⟩, rfl, rfl, rfl⟩, by simpa using h2⟩
@[simp] theorem R_setf {Q : Fl → Env → W → Prop} : R (setfM cn f fo fe) ρ w Q ↔ R fe ρ w fun r ρ1 w1 => R (escR r) ρ1 w1 fun d ρ2 w2 => R fo ρ2 w2 fun r0 ρ3 w3 => ∃ k gs, r0 = .ob k ∧ w3.st[k]? = some (.ins cn gs) ∧ gs.length < 900 ∧ Q .nx ρ3 { w3 with st := w3.st.set k (.ins cn (putD f d gs)) } := by
  unfold setfM
  simp only [R_bind]
  constructor <;> intro h0 <;> refine h0.mono fun r ρ1 w1 h1 => h1.mono fun d ρ2 w2 h2 => h2.mono fun r0 ρ3 w3 h3 => ?_
  · obtain ⟨fl, ρ4, w4, e, q⟩ := h3
    cases r0 with
    | ob k =>
      obtain ⟨gs, eg, el, rfl, rfl, rfl⟩ := putO_iff.mp e
      exact ⟨k, gs, rfl, eg, el, q⟩
    | _ => cases e
  · obtain ⟨k, gs, rfl, e, hl, q⟩ := h3
    exact ⟨_, _, _, putO_iff.mpr ⟨gs, e, hl, rfl, rfl, rfl⟩, q⟩
@[simp] theorem R_callL {Q : RV → Env → W → Prop} : R (callL den dd fs) ρ w Q ↔ R fs ρ w fun rs ρ1 w1 => R (runL den ((argD w1.st.length rs).1 ++ dd) (argD w1.st.length rs).2) ρ1 w1 Q := by
  unfold callL
  rw [R_bind]
  exact Iff.rfl
@[simp] theorem R_methL {Q : RV → Env → W → Prop} : R (methL cn m den dd fo fs) ρ w Q ↔ R fo ρ w fun r ρ0 w0 => R (selfL cn (some m) r) ρ0 w0 fun _ ρ2 w2 => R fs ρ2 w2 fun rs ρ1 w1 => R (runL den ((argD w1.st.length (r :: rs)).1 ++ dd) (argD w1.st.length (r :: rs)).2) ρ1 w1 Q := by
  unfold methL
  simp only [R_bind]
  exact Iff.rfl
@[simp] theorem R_propL {Q : RV → Env → W → Prop} : R (propL cn den fo) ρ w Q ↔ R fo ρ w fun r ρ0 w0 => R (selfL cn none r) ρ0 w0 fun _ ρ1 w1 => R (runL den (argD w1.st.length [r]).1 (argD w1.st.length [r]).2) ρ1 w1 Q := by
  unfold propL
  simp only [R_bind]
  exact Iff.rfl
@[simp] theorem R_makFM {den : List D → W → Option (List (Str × D) × W)} {Q : RV → Env → W → Prop} : R (makFM cn den dd fs) ρ w Q ↔ R fs ρ w fun rs ρ1 w1 => R (escAll rs) ρ1 w1 fun ds ρ2 w2 => Ran (den (ds ++ dd) w2) fun gs w' => Q (.fr (.ins cn gs)) ρ2 w' := by
  unfold makFM
  simp only [R_bind]
  refine ⟨fun h => h.mono fun rs ρ1 w1 h => h.mono fun ds ρ2 w2 h => ?_, fun h => h.mono fun rs ρ1 w1 h => h.mono fun ds ρ2 w2 h => ?_⟩
  · obtain ⟨a, ρ3, w3, e, q⟩ := h
    dsimp only at e
    split at e
    · rename_i gs w' e2
      cases e
      exact ⟨gs, _, e2, q⟩
    · cases e
  · obtain ⟨gs, w', e, q⟩ := h
    exact ⟨_, _, _, by simp [e], q⟩
@[simp] theorem R_makKM {ix : List Nat} {den : List D → W → Option (List (Str × D) × W)} {Q : RV → Env → W → Prop} : R (makKM cn ix den fs) ρ w Q ↔ R fs ρ w fun rs ρ1 w1 => R (escAll rs) ρ1 w1 fun ds ρ2 w2 => Ran (den (pickL ix ds) w2) fun gs w' => Q (.fr (.ins cn gs)) ρ2 w' := by
  unfold makKM
  simp only [R_bind]
  refine ⟨fun h => h.mono fun rs ρ1 w1 h => h.mono fun ds ρ2 w2 h => ?_, fun h => h.mono fun rs ρ1 w1 h => h.mono fun ds ρ2 w2 h => ?_⟩
  · obtain ⟨a, ρ3, w3, e, q⟩ := h
    dsimp only at e
    split at e
    · rename_i gs w' e2
      cases e
      exact ⟨gs, _, e2, q⟩
    · cases e
  · obtain ⟨gs, w', e, q⟩ := h
    exact ⟨_, _, _, by simp [e], q⟩
@[simp] theorem R_shM {Q : RV → Env → W → Prop} : R (shM fo) ρ w Q ↔ R fo ρ w fun r ρ1 w1 => R (escR r) ρ1 w1 fun d ρ2 w2 => Q (.sh d) ρ2 w2 := by
  unfold shM
  simp only [R_bind, R_pure]
end
end FD

end sec_EV10
section sec_EV11
set_option maxRecDepth 100000
set_option maxHeartbeats 5000000
/-! EV11: rules for a dict with a list of its own. -/
namespace FD
open PySem L2
local instance tl11 : Tabl := { T := [] }
section
variable {ρ : Env} {w : W} {fo fe : M RV} {g : M Fl} {k1 k2 : Str} {i : Nat}
@[simp] theorem R_appOM {Q : RV → Env → W → Prop} : R (appOM fo fe) ρ w Q ↔ R fo ρ w fun r ρ1 w1 => ∃ k ds0, r = .ob k ∧ w1.st[k]? = some (.lst ds0) ∧ R fe ρ1 w1 fun r1 ρ2 w2 => R (escR r1) ρ2 w2 fun d ρ3 w3 => ∃ ds, w3.st[k]? = some (.lst ds) ∧ ds.length < 1000000 ∧ Q (.sh .non) ρ3 { w3 with st := w3.st.set k (.lst (ds ++ [d])) } := by
  unfold appOM
  rw [R_bind]
  constructor <;> intro h0 <;> refine h0.mono fun r ρ1 w1 h1 => ?_
  · rw [R_bind] at h1
    obtain ⟨u, ρ2, w2, e, h2⟩ := h1
    cases r with
    | ob k =>
      unfold isLO at e
      dsimp only at e
      split at e
      · rename_i ds0 e0
        cases e
        refine ⟨k, ds0, rfl, e0, ?_⟩
        rw [R_bind] at h2
        refine h2.mono fun r1 ρ3 w3 h3 => ?_
        rw [R_bind] at h3
        refine h3.mono fun d ρ4 w4 h4 => ?_
        obtain ⟨a, ρ5, w5, e5, q⟩ := h4
        unfold appO at e5
        dsimp only at e5
        split at e5
        · rename_i ds e6
          split at e5
          · rename_i hl
            cases e5
            exact ⟨ds, e6, hl, q⟩
          · cases e5
        · cases e5
      · cases e
    | _ => cases e
  · obtain ⟨k, ds0, rfl, e0, h2⟩ := h1
    rw [R_bind]
    refine ⟨(), ρ1, w1, by simp [isLO, e0], ?_⟩
    show R (bindM fe fun r1 => bindM (escR r1) fun d => appO d (RV.ob k)) ρ1 w1 Q
    rw [R_bind]
    refine h2.mono fun r1 ρ3 w3 h3 => ?_
    rw [R_bind]
    refine h3.mono fun d ρ4 w4 h4 => ?_
    obtain ⟨ds, e6, hl, q⟩ := h4
    exact ⟨_, _, _, by simp [appO, e6, hl], q⟩
end
end FD

end sec_EV11
section sec_P3
set_option maxRecDepth 100000
set_option maxHeartbeats 5000000
/-! P3: pick. -/
namespace KL
open PySem L2 FD
open ST (Up up_eq setN mem_setN up_setN)
variable {sT : List D}
theorem R_pick {b : Nat} {w : W} {l : List D} {Q : RV → W → Prop} (h : Okb (b + 1) w sT) (hl : l ≠ []) (hl2 : l.length ≤ 1000000) (q : ∀ d w', d ∈ l → Okb b w' sT → Q (.sh d) w') : Ran (D_law_pick [.draw, .lst l] w) Q := by
  refine D_run ?_
  simp [d_law_pick, startE, R_var, R_liftN, peeks, peek, lenD]
  have : 0 < l.length := List.length_pos_iff.mpr hl
  refine R_take h (by omega) (by omega) fun k w' k0 k1 h' => ?_
  obtain ⟨n, rfl⟩ := Int.eq_ofNat_of_zero_le k0
  have hn : n < l.length := by omega
  simp [ixD, atI_nat l n hn, outR]
  exact q _ _ (List.getElem_mem hn) h'
end KL

end sec_P3
section sec_P8
set_option maxRecDepth 100000
set_option maxHeartbeats 5000000
/-! P8: drawn schemes. -/
namespace KL
open PySem L2 FD
open ST (Up up_eq setN mem_setN up_setN)
variable {sT : List D}
local instance tl9 : Tabl := { T := [] }
theorem map_erase {α β : Type} (f : α → β) : ∀ (l : List α) (j : Nat), (l.map f).eraseIdx j = (l.eraseIdx j).map f
  | [], _ => rfl
  | _ :: _, 0 => rfl
  | a :: l, j + 1 => by
    show f a :: (l.map f).eraseIdx j = f a :: (l.eraseIdx j).map f
    rw [map_erase f l j]
abbrev sgn (l : List Nat) : List D := l.map fun c => S [c]
theorem listD_S {l : List Nat} (h : l.length ≤ 1000000) : listD [S l] = some (.fr (.lst (sgn l))) := by
  simp [listD, h, signsD]
theorem R_columns {b : Nat} {w : W} {m : Int} {Q : RV → W → Prop} (h : Okb (b + 10) w sT) (hm : 1 ≤ m) (hm2 : m ≤ 100) (q : ∀ cs w', Col cs → (cs.length : Int) ≤ m → Okb b w' sT → Q (.sh (S cs)) w') : Ran (D_law_columns [.draw, .int m] w) Q := by
  refine D_run ?_
  simp [d_law_columns, startE, R_var, lit_abcd, R_liftNg, peeks, peek, listD_S]
  refine R_take (b := b + 9) h (by omega) (by omega) fun k w1 k0 k1 h1 => ?_
  simp [addD]
  obtain ⟨J, hJ⟩ : ∃ J : Nat → FD.Env → W → Prop, ∀ n ρ w', J n ρ w' ↔ ∃ left : List Nat, ρ = [some (.val .draw), some (.val (.int m)), some (.own (.lst (sgn left))), some (.val (.int (1 + k)))] ∧ left.Sublist [97, 98, 99, 100] ∧ left ≠ [] ∧ n = left.length ∧ Okb (b + n) w' sT := ⟨_, fun _ _ _ => Iff.rfl⟩
  obtain ⟨B, hB⟩ : ∃ B : Nat → FD.Env → W → Prop, ∀ n ρ w', B n ρ w' ↔ ∃ left : List Nat, ρ = [some (.val .draw), some (.val (.int m)), some (.own (.lst (sgn left))), some (.val (.int (1 + k)))] ∧ left.Sublist [97, 98, 99, 100] ∧ 2 ≤ left.length ∧ n = left.length ∧ Okb (b + n) w' sT := ⟨_, fun _ _ _ => Iff.rfl⟩
  refine R_while2 J B ?_ ?_ 1000000 4 _ _ (by omega) ((hJ _ _ _).mpr ⟨[97, 98, 99, 100], rfl, List.Sublist.refl _, by simp, rfl, h1.mono (by omega)⟩)
  · intro n ρ w' hj
    obtain ⟨left, rfl, hs, hne, rfl, hb⟩ := (hJ _ _ _).mp hj
    by_cases hg : 1 + k < (left.length : Int)
    · simp [R_var, R_own, R_liftNg, peeks, peek, slotD, lenD, intD, i0, hg]
      exact (hB _ _ _).mpr ⟨left, rfl, hs, by omega, rfl, hb⟩
    · have hl := hs.length_le
      simp at hl
      simp [R_var, R_own, R_liftNg, R_lift1g, peeks, peek, slotD, lenD, intD, i0, hg, lit_e, joinD_signs (show left.length ≤ 1000000 by omega), outR]
      exact q left w' ⟨hs, hne⟩ (by omega) (hb.mono (by omega))
  · intro n ρ w' hj
    obtain ⟨left, rfl, hs, hl, rfl, hb⟩ := (hB _ _ _).mp hj
    have hl4 := hs.length_le
    simp at hl4
    simp only [exprM, R_bind]
    refine R_popQ (ds0 := sgn left) rfl ?_
    simp [R_var, R_own, R_liftNg, peeks, peek, slotD, lenD]
    refine R_take (b := b + (left.length - 1)) (hb.mono (by omega)) (by omega) (by omega) fun i w2 i0 i1 h2 => ?_
    obtain ⟨j, rfl⟩ := Int.eq_ofNat_of_zero_le i0
    have hj : j < left.length := by omega
    refine PopQ.mk (ds := sgn left) rfl (by simpa using hj) (by simp; omega) ?_
    have e : (sgn left).eraseIdx j = sgn (left.eraseIdx j) := by
      simp only [sgn, map_erase]
    simp
    refine ⟨left.length - 1, by omega, (hJ _ _ _).mpr ⟨left.eraseIdx j, by simp [e], (List.eraseIdx_sublist _ _).trans hs, ?_, ?_, h2⟩⟩
    · intro z
      have := List.length_eraseIdx_of_lt hj
      rw [z] at this
      simp at this
      omega
    · rw [List.length_eraseIdx_of_lt hj]
theorem R_letters {b : Nat} {w : W} {l : List Nat} {Q : RV → W → Prop} (h : Okb (b + l.length) w sT) (hl : l.length ≤ 1000) (q : ∀ s w', s.Sublist l → Okb b w' sT → Q (.sh (S s)) w') : Ran (D_law_letters [.draw, S l] w) Q := by
  refine D_run ?_
  simp [d_law_letters, startE, R_var, R_lcM, iterD_S]
  refine ⟨⟨rfl, by omega⟩, ?_⟩
  obtain ⟨J, hJ⟩ : ∃ J : List Nat → List D → W → Prop, ∀ rest acc w', J rest acc w' ↔ (∃ s : List Nat, acc = sgn s ∧ (∀ t : List Nat, t.Sublist rest → (s ++ t).Sublist l) ∧ Okb (b + rest.length) w' sT) := ⟨_, fun _ _ _ => Iff.rfl⟩
  refine R_lcInv (fun c => S [c]) J ?_ ?_ l ((hJ _ _ _).mpr ⟨[], rfl, fun t ht => by simpa using ht, h⟩)
  · intro c rest acc w' hj
    obtain ⟨s, rfl, hs, hb⟩ := (hJ _ _ _).mp hj
    simp [R_var, wipeE]
    refine R_take (b := b + rest.length) (hb.mono (by simp only [List.length_cons]; omega)) (by decide) (by decide) fun k w2 k0 k1 h2 => ?_
    by_cases hk : k = 0
    · simp [eqD_int, hk, R_var, wipeE]
      refine (hJ _ _ _).mpr ⟨s ++ [c], by simp [sgn], fun t ht => ?_, h2⟩
      have := hs (c :: t) (ht.cons_cons c)
      simpa using this
    · simp [eqD_int, hk, R_var, wipeE]
      exact (hJ _ _ _).mpr ⟨s, rfl, fun t ht => hs t (ht.cons c), h2⟩
  · intro acc w' hj
    obtain ⟨s, rfl, hs, hb⟩ := (hJ _ _ _).mp hj
    have hsl : s.Sublist l := by simpa using hs [] (List.nil_sublist _)
    have := hsl.length_le
    simp [R_lift1g, peek, lit_e, joinD_signs (show s.length ≤ 1000000 by omega), outR]
    exact q s w' hsl hb
end KL

end sec_P8
section sec_PC
set_option maxRecDepth 100000
set_option maxHeartbeats 5000000
/-! PC: slices; ranges. -/
namespace KL
open PySem L2 FD
open ST (Up up_eq setN mem_setN up_setN)
local instance tpc : Tabl := { T := [] }
theorem cut_take {α : Type} (xs : List α) (n : Nat) : cutL xs none (some (n : Int)) = xs.take n := by
  unfold cutL
  rw [HT.sIx_none, HT.sIx_nat]
  simp [List.take_eq_take_iff]
theorem R_range' {ρ : FD.Env} {w : W} {n : Int} {Q : List D → FD.Env → W → Prop} (h : -1000000 ≤ n ∧ n ≤ 1000000) : R (rangeM [.sh (.int n)]) ρ w Q ↔ Q ((List.range n.toNat).map fun (i : Nat) => D.int (i : Int)) ρ w := R_range rfl h
theorem addr {cs : List Nat} (hC : Col cs) : addD (S cs) (S [114]) = some (.sh (S (cs ++ [114]))) := addD_S (by have := hC.len; simp; omega)
end KL

end sec_PC
section sec_P9
set_option maxRecDepth 100000
set_option maxHeartbeats 5000000
/-! P9: drawn schemes. -/
namespace KL
open PySem L2 FD
open ST (Up up_eq setN mem_setN up_setN)
variable {sT : List D}
local instance tl10 : Tabl := { T := [] }
theorem R_drawn {b : Nat} {w : W} {m : Int} {t : Nat} {Q : RV → W → Prop} (h : Okb (b + 200) w sT) (hm : 1 ≤ m) (hm2 : m ≤ 100) (ht : 1 ≤ t) (ht2 : t ≤ 20) (q : ∀ cs ds w', Col cs → (cs.length : Int) ≤ m → (∀ p ∈ ds, Dep cs p) → ds.length ≤ t → Okb b w' sT → Q (.sh (planD cs ds)) w') : Ran (D_law_drawn [.draw, .int m, .int t] w) Q := by
  refine D_run ?_
  simp [d_law_drawn, startE, R_var]
  refine R_columns (b := b + 190) h hm hm2 fun cs w1 hC hcl h1 => ?_
  have hc := hC.len
  simp [R_var, addD]
  refine R_take (b := b + 189) h1 (by omega) (by omega) fun k w2 k0 k1 h2 => ?_
  simp
  refine R_pick (b := b + 188) h2 (by simp) (by simp) fun d w3 hd h3 => ?_
  obtain ⟨n, rfl, hn⟩ : ∃ n : Nat, d = .int n ∧ n ≤ 20 := by
    simp at hd
    rcases hd with rfl | rfl | rfl | rfl
    · exact ⟨0, rfl, by omega⟩
    · exact ⟨1, rfl, by omega⟩
    · exact ⟨2, rfl, by omega⟩
    · exact ⟨k.toNat, by rw [Int.toNat_of_nonneg k0], by omega⟩
  rw [R_range' (by omega)]
  obtain ⟨J, hJ⟩ : ∃ J : List Nat → FD.Env → W → Prop, ∀ rest ρ w', J rest ρ w' ↔ ∃ (ds : List (List Nat × Nat)) (x5 x6 : Option Slot), ρ = [some (.val .draw), some (.val (.int m)), some (.val (.int t)), some (.val (S cs)), some (.own (.lst (ds.map depD))), x5, x6] ∧ (∀ p ∈ ds, Dep cs p) ∧ ds.length + rest.length ≤ 20 ∧ Okb (b + 9 * rest.length) w' sT := ⟨_, fun _ _ _ => Iff.rfl⟩
  refine R_forLm (fun i : Nat => D.int (i : Int)) J ?_ ?_ _ _ _ ((hJ _ _ _).mpr ⟨[], none, none, rfl, fun _ h => (nomatch h), by simp; omega, h3.mono (by simp; omega)⟩)
  · intro i rest ρ w' hj
    obtain ⟨ds, x5, x6, rfl, hds, hl, hb⟩ := (hJ _ _ _).mp hj
    simp only [List.length_cons] at hl hb
    simp [R_var, lit_r, addr hC]
    refine R_letters (b := b + 9 * rest.length + 3) (hb.mono (by simp; omega)) (by simp; omega) fun s w4 hs h4 => ?_
    have hs' : Set_ cs s := hs
    have fin : ∀ lo w5, Set_ cs lo → Okb (b + 9 * rest.length + 1) w5 sT → ∀ x5, R (appM 4 (tupM (consA (varM 6) (consA (callM D_law_pick [] (consA (varM 0) (consA (bM listD (consA (op2M addD (varM 3) (pureM (.sh (.str (st [114]))))) (pureM []))) (pureM [])))) (pureM []))))) [some (.val .draw), some (.val (.int m)), some (.val (.int t)), some (.val (S cs)), some (.own (.lst (ds.map depD))), x5, some (.val (S lo))] w5 fun a ρ2 w2 => J rest ρ2 w2 := by
      intro lo w5 hlo h5 x5
      refine R_appQ (ds0 := ds.map depD) rfl ?_
      simp [R_var, lit_r, addr hC, R_liftN, peeks, peek, listD_S (show (cs ++ [114]).length ≤ 1000000 by simp; omega), -List.map_append]
      refine R_pick h5 (by simp) (by simp; omega) fun d w6 hd h6 => ?_
      obtain ⟨c, hc', rfl⟩ := List.mem_map.mp hd
      simp
      refine ⟨ds.map depD, rfl, by simp; omega, ?_⟩
      simp
      refine (hJ _ _ _).mpr ⟨ds ++ [(lo, c)], x5, some (.val (S lo)), by simp, fun p hp => ?_, by simp; omega, h6⟩
      rcases List.mem_append.mp hp with hp | hp
      · exact hds p hp
      · rw [List.mem_singleton.mp hp]
        exact ⟨hlo, hc'⟩
    have e1 := eqD_S (l := s) (m := []) (hs'.cp hC) (fun x hx => nomatch hx)
    by_cases he : s = []
    · subst he
      simp [R_var, lit_e, e1]
      refine R_take (b := b + 9 * rest.length + 2) h4 (by decide) (by decide) fun k w5 k0 k1 h5 => ?_
      by_cases hk : 0 < k
      · simp [intD, i0, hk, R_var, R_liftN, peeks, peek, listD_S (show cs.length ≤ 1000000 by omega)]
        refine R_pick h5 (by simpa using hC.2) (by simp; omega) fun d w6 hd h6 => ?_
        obtain ⟨c, hc', rfl⟩ := List.mem_map.mp hd
        simp only [R_asgsh]
        exact fin [c] w6 (one_set (List.mem_append_left _ hc')) h6 _
      · simp [intD, i0, hk]
        exact fin [] w5 hs' (h5.mono (by omega)) _
    · simp [R_var, lit_e, e1, he]
      exact fin s w4 hs' (h4.mono (by omega)) _
  · intro ρ w' hj
    obtain ⟨ds, x5, x6, rfl, hds, hl, hb⟩ := (hJ _ _ _).mp hj
    simp [R_var, R_own, R_lift1g, R_liftNg, peek, peeks, slotD, slD, tupD, cut_take, outR]
    have e : planD cs (ds.take t) = .tup [S cs, .tup ((ds.map depD).take t)] := by simp
    rw [← List.map_take]
    exact q cs (ds.take t) w' hC hcl (fun p hp => hds p (List.mem_of_mem_take hp)) (by simp; omega) (hb.mono (by omega))
end KL

end sec_P9
section sec_LW
set_option maxRecDepth 100000
set_option maxHeartbeats 5000000
/-! LW: the law's own within. -/
namespace KL
open PySem L2 FD
open ST (Up up_eq setN mem_setN up_setN)
local instance tlw : Tabl := { T := [] }
end KL

end sec_LW
section sec_LS
set_option maxRecDepth 100000
set_option maxHeartbeats 5000000
/-! LS: the law's own list of sets. -/
namespace KL
open PySem L2 FD
open ST (Up up_eq setN mem_setN up_setN)
local instance tls : Tabl := { T := [] }
end KL

end sec_LS
section sec_P7C
set_option maxRecDepth 100000
set_option maxHeartbeats 5000000
/-! P7C: the law's own closures. -/
namespace KL
open PySem L2 FD
open ST (Up up_eq setN mem_setN up_setN)
local instance tl8c : Tabl := { T := [] }
end KL

end sec_P7C
section sec_PSh
set_option maxRecDepth 100000
set_option maxHeartbeats 5000000
/-! P10: shuffled, written, near. -/
namespace KL
open PySem L2 FD
open ST (Up up_eq setN mem_setN up_setN)
variable {sT : List D}
local instance tl11 : Tabl := { T := [] }
theorem neD_nil {l : List D} (h : ∀ d ∈ l, NB 60 d) : neD (.lst l) (.lst []) = some (.sh (.bl (!l.isEmpty))) := by
  have h1 : NB 64 (.lst l) := (show NB 61 (.lst l) from h).mono (by omega)
  have h2 : NB 64 (.lst []) := fun d hd => nomatch hd
  rw [neD_NB h1 h2]
  cases l <;> simp
end KL

end sec_PSh
section sec_P12
set_option maxRecDepth 100000
set_option maxHeartbeats 5000000
/-! P12: the start of all draws; a law's run. -/
namespace KL
open PySem L2 FD
open ST (Up up_eq setN mem_setN up_setN)
local instance tl13 : Tabl := { T := [] }
theorem asInts_m {α : Type} (f : α → Int) (l : List α) : asInts (l.map fun a => D.int (f a)) = some (l.map f) := by
  have e : (l.map fun a => D.int (f a)) = (l.map f).map D.int := by simp
  rw [e, asInts_map]
theorem beg_ok {ns : List Int} (h : ns.length ≤ 63) : ∃ wi ci, beg ns = some (wi, ci) ∧ wi.length ≤ 63 ∧ ∀ c ∈ ci, 0 ≤ c ∧ c < 2 ^ 31 := by
  have p18 : powI 10 18 = some (.sh (.int 1000000000000000000)) := by simp [powI]
  have ab : ∀ n : Int, absD [.int n] = some (.sh (.int (n.natAbs : Int))) := fun n => by
    simp only [absD]
    congr 3
    omega
  have h1 : R d1_law_begun (startE 3 [.scr ns]) ⟨[], [], 0, 0, []⟩ fun fl ρ w => fl = .nx ∧ w = ⟨[], [], 0, 0, []⟩ ∧ ρ = [some (.val (.scr ns)), some (.own (.lst ((ns.filter fun n => decide (1000000000000000000 ≤ (n.natAbs : Int))).map fun n => D.int (n.natAbs - 1000000000000000000)))), none] := by
    simp [d1_law_begun, startE, R_lcM, R_var, iterD]
    refine ⟨⟨rfl, by omega⟩, R_lcFil D.int (fun n => decide (1000000000000000000 ≤ (n.natAbs : Int))) (fun n => D.int (n.natAbs - 1000000000000000000)) ns (fun n hn => ?_) ?_⟩
    · simp [R_var, wipeE, R_liftN, peeks, peek, ab, intD, p18, i0]
      by_cases hc : (1000000000000000000 : Int) ≤ n.natAbs
      · simp [hc, R_var, R_liftN, peeks, peek, ab, intD, p18, i0]
      · simp [hc]
        omega
    · simp [wipeE, restE]
  have h2 : R d2_law_begun [some (.val (.scr ns)), some (.own (.lst ((ns.filter fun n => decide (1000000000000000000 ≤ (n.natAbs : Int))).map fun n => D.int (n.natAbs - 1000000000000000000)))), none] ⟨[], [], 0, 0, []⟩ fun r ρ w => r = .fr (.lst (ns.map fun n => D.int ((n.natAbs : Int) % 2147483629))) ∧ ρ = [some (.val (.scr ns)), some (.own (.lst ((ns.filter fun n => decide (1000000000000000000 ≤ (n.natAbs : Int))).map fun n => D.int (n.natAbs - 1000000000000000000)))), none] := by
    simp [d2_law_begun, startE, R_lcM, R_var, iterD]
    refine ⟨⟨rfl, by omega⟩, R_lcMap D.int (fun n => D.int ((n.natAbs : Int) % 2147483629)) ns (fun n hn => ?_) ?_⟩
    · simp [R_var, wipeE, R_liftN, peeks, peek, ab, intD, intFD, modI]
    · simp [wipeE, restE]
  obtain ⟨fl, ρ, w, e1, rfl, rfl, rfl⟩ := h1
  obtain ⟨r, ρ2, w2, e2, rfl, rfl⟩ := h2
  refine ⟨(ns.filter fun n => decide (1000000000000000000 ≤ (n.natAbs : Int))).map fun n => (n.natAbs : Int) - 1000000000000000000, ns.map fun n => (n.natAbs : Int) % 2147483629, ?_, ?_, ?_⟩
  · unfold beg begD
    rw [e1]
    simp only [e2, ownL, List.getElem?_cons_succ, List.getElem?_cons_zero, asInts_m]
  · rw [List.length_map]
    exact Nat.le_trans (List.length_filter_le _ _) h
  · intro c hc
    obtain ⟨n, _, rfl⟩ := List.mem_map.mp hc
    have := Int.emod_nonneg (n.natAbs : Int) (by decide : (2147483629 : Int) ≠ 0)
    have := Int.emod_lt_of_pos (n.natAbs : Int) (by decide : (0 : Int) < 2147483629)
    omega
theorem law_run {n : Nat} {d : M Fl} (h : ∀ ns w, ns.length ≤ 63 → Okb (2 ^ 38) w → R d ((startE n [.scr ns]).set 1 (some (.val .draw))) w fun fl _ _ => fl = .ret (.sh (.bl true))) : ∀ ns : List Int, ns.length ≤ 63 → denL n beg d ns = true := by
  intro ns hns
  obtain ⟨wi, ci, e, h1, h2⟩ := beg_ok hns
  obtain ⟨fl, ρ', w', e2, rfl⟩ := h ns ⟨wi, ci, 0, 0, []⟩ hns ⟨by simp, by simp, h2, by simp; omega, rfl⟩
  unfold denL
  rw [e]
  simp only [e2, endT]
end KL

end sec_P12
section sec_RP
set_option maxRecDepth 100000
set_option maxHeartbeats 5000000
/-! RP: repr of plain data is a text that equals itself. -/
namespace FD
open PySem L2
local instance trp : Tabl := { T := [] }
def Cps (s : Str) : Prop := ∀ c ∈ s.cps.toList, c < 0x110000
theorem char_lt (a : Char) : a.toNat < 0x110000 := by
  rcases a.valid with h | h
  · show a.val.toNat < _
    omega
  · show a.val.toNat < _
    omega
theorem cps_of (x : String) : Cps (Str.ofString x) := fun c hc => by
  rw [Str.ofString_eq_toList] at hc
  simp at hc
  obtain ⟨a, _, rfl⟩ := hc
  exact char_lt a
theorem Cps.app {a b : Str} (ha : Cps a) (hb : Cps b) : Cps (a ++ b) := fun c hc => by
  have hc : c ∈ (a.cps ++ b.cps).toList := hc
  rw [Array.toList_append] at hc
  rcases List.mem_append.mp hc with z | z
  · exact ha c z
  · exact hb c z
theorem cps_from : ∀ (ts : List Str) (k : Nat) (acc : Str), Cps acc → (∀ t ∈ ts, Cps t) → Cps (textFrom k acc ts)
  | [], _, _, h, _ => h
  | t :: ts, k, acc, h, ht => cps_from ts (k + 1) _ ((h.app (cps_of _)).app (ht t List.mem_cons_self)) fun t' h' => ht t' (List.mem_cons_of_mem _ h')
theorem cps_join : ∀ ts : List Str, (∀ t ∈ ts, Cps t) → Cps (Str.join ", " ts)
  | [], _ => fun c hc => nomatch (show c ∈ ([] : List Nat) from hc)
  | [x], h => h x List.mem_cons_self
  | x :: y :: r, h => ((h x List.mem_cons_self).app (cps_of ", ")).app (cps_join (y :: r) fun t ht => h t (List.mem_cons_of_mem _ ht))
theorem cps_reprChar {q c z : Nat} (hc : c < 0x110000) (hz : z ∈ Builtin.Str.reprChar q c) : z < 0x110000 := by
  have hx : ∀ n, z ∈ (let d := (Nat.toDigits 16 c).map Char.toNat; List.replicate (n - d.length) 48 ++ d) → z < 0x110000 := fun n h => by
    rcases List.mem_append.mp h with h | h
    · rw [List.eq_of_mem_replicate h]
      omega
    · obtain ⟨a, _, rfl⟩ := List.mem_map.mp h
      exact char_lt a
  unfold Builtin.Str.reprChar at hz
  dsimp only at hz
  split at hz
  · simp at hz
    omega
  · split at hz
    · simp at hz
      omega
    · split at hz
      · simp at hz
        omega
      · split at hz
        · simp at hz
          omega
        · split at hz
          · simp at hz
            omega
          · split at hz
            · rcases List.mem_append.mp hz with h | h
              · simp at h
                omega
              · exact hx 2 h
            · split at hz
              · rcases List.mem_append.mp hz with h | h
                · simp at h
                  omega
                · exact hx 4 h
              · rcases List.mem_append.mp hz with h | h
                · simp at h
                  omega
                · exact hx 8 h
theorem cps_fold {q : Nat} : ∀ (l : List Nat) (acc : Array Nat), (∀ c ∈ acc.toList, c < 0x110000) → (∀ c ∈ l, c < 0x110000) → ∀ c ∈ (l.foldl (fun out c => out ++ (Builtin.Str.reprChar q c).toArray) acc).toList, c < 0x110000
  | [], _, h, _ => h
  | a :: l, acc, h, hl => cps_fold l _ (fun c hc => by
      simp at hc
      rcases hc with z | z
      · exact h c (by simpa using z)
      · exact cps_reprChar (hl a List.mem_cons_self) z) fun c hc => hl c (List.mem_cons_of_mem _ hc)
theorem cps_text {x : Str} (h : Cps x) : Cps (reprText x) := by
  have hq : reprQuote x < 0x110000 := by
    unfold reprQuote
    split <;> omega
  intro c hc
  have hc : c ∈ ((x.cps.foldl (fun out c => out ++ (Builtin.Str.reprChar (reprQuote x) c).toArray) #[reprQuote x]).push (reprQuote x)).toList := hc
  rw [Array.toList_push, ← Array.foldl_toList] at hc
  rcases List.mem_append.mp hc with z | z
  · exact cps_fold _ _ (fun c h => by
      simp at h
      omega) h c z
  · simp at z
    omega
mutual
theorem cps_shown : ∀ p : PyData, p.canLay0 = true → Cps p.shown
  | .none, _ => cps_of _
  | .bool b, _ => by cases b <;> exact cps_of _
  | .int i, _ => cps_of _
  | .str x, h => cps_text fun c hc => by
      have h : PyData.strOk x = true := h
      simp only [PyData.strOk, Array.all_eq_true', decide_eq_true_eq] at h
      exact h c (by simpa using hc)
  | .list xs, h => (cps_from _ 0 _ (cps_of _) (cps_shownAll xs h)).app (cps_of _)
  | .tuple xs, h => ((cps_of "(").app (cps_join _ (cps_shownAll xs h))).app (cps_of _)
  | .dict kvs, h => by cases h
theorem cps_shownAll : ∀ xs : List PyData, PyData.canLayAll0 xs = true → ∀ t ∈ PyData.shownAll xs, Cps t
  | [], _, t, ht => nomatch ht
  | x :: xs, h, t, ht => by
    obtain ⟨h1, h2⟩ := Bool.and_eq_true_iff.mp (show (PyData.canLay0 x && PyData.canLayAll0 xs) = true from h)
    rcases List.mem_cons.mp ht with rfl | z
    · exact cps_shown x h1
    · exact cps_shownAll xs h2 t z
end
/-- plain data, at most so deep and so heavy -/
def Pl (n w : Nat) (d : D) : Prop := ∃ p, toPy d = some p ∧ p.canLay0 = true ∧ p.showable = true ∧ p.hasDict = false ∧ p.depth ≤ n ∧ p.leavesShort 13 = true ∧ p.weight ≤ w
theorem Pl.mono {n m v w : Nat} {d : D} (h : Pl n v d) (h1 : n ≤ m) (h2 : v ≤ w) : Pl m w d := by
  obtain ⟨p, a1, a2, a3, a4, a5, a6, a7⟩ := h
  exact ⟨p, a1, a2, a3, a4, by omega, a6, by omega⟩
theorem Pl_str {x : Str} (h : Cps x) : Pl 0 x.cps.size (.str x) := by
  refine ⟨.str x, by simp [toPy], ?_, rfl, rfl, by simp [PyData.depth], ?_, by simp [PyData.weight]⟩
  · simp only [PyData.canLay0, PyData.strOk, Array.all_eq_true', decide_eq_true_eq]
    intro c hc
    exact h c (by simpa using hc)
  · simp only [PyData.leavesShort, List.all_eq_true, decide_eq_true_eq]
    intro c hc
    have := h c hc
    omega
end FD

end sec_RP
section sec_RP2
set_option maxRecDepth 100000
set_option maxHeartbeats 5000000
/-! RP2: plain data with numbers of more figures; their repr is a text that equals itself. -/
namespace FD
open PySem L2
local instance trp2 : Tabl := { T := [] }
/-- plain data: numbers with less than B figures, at most n deep, w heavy -/
def PlB (B n w : Nat) (d : D) : Prop := ∃ p, toPy d = some p ∧ p.canLay0 = true ∧ p.showable = true ∧ p.hasDict = false ∧ p.depth ≤ n ∧ p.leavesShort B = true ∧ p.weight ≤ w
theorem PlB.mono {B n m v w : Nat} {d : D} (h : PlB B n v d) (h1 : n ≤ m) (h2 : v ≤ w) : PlB B m w d := by
  obtain ⟨p, a1, a2, a3, a4, a5, a6, a7⟩ := h
  exact ⟨p, a1, a2, a3, a4, by omega, a6, by omega⟩
theorem neD_cps {s : Str} (c : Cps s) : neD (.str s) (.str s) = some (.sh (.bl false)) := by
  rw [neD_NB (a := .str s) (b := .str s) c c]
  simp
theorem eqD_cps {s : Str} (c : Cps s) : eqD (.str s) (.str s) = some (.sh (.bl true)) := by
  rw [eqD_NB (a := .str s) (b := .str s) c c]
  simp
end FD

end sec_RP2
section sec_SH
set_option maxRecDepth 100000
set_option maxHeartbeats 1000000
/-! SH: data whose repr can be asked for, small dicts in it too. -/
namespace FD
open PySem L2
local instance tsh : Tabl := { T := [] }
/-- at most n deep, at most m signs -/
def Sh (n m : Nat) (d : D) : Prop := ∃ p, toPyK d = some p ∧ p.showable = true ∧ p.depth ≤ n ∧ p.shown.length ≤ m ∧ Cps p.shown
theorem Sh.mono {n m n' m' : Nat} {d : D} (h : Sh n m d) (h1 : n ≤ n') (h2 : m ≤ m') : Sh n' m' d := by
  obtain ⟨p, a1, a2, a3, a4, a5⟩ := h
  exact ⟨p, a1, a2, by omega, by omega, a5⟩
def shB (n m : Nat) (d : D) : Bool := match toPyK d with
  | some p => p.showable && decide (p.depth ≤ n) && decide (p.shown.length ≤ m) && p.shown.cps.toList.all fun c => decide (c < 0x110000)
  | none => false
theorem Sh_of {n m : Nat} {d : D} (h : shB n m d = true) : Sh n m d := by
  unfold shB at h
  split at h
  · rename_i p e
    simp only [Bool.and_eq_true, decide_eq_true_eq, List.all_eq_true] at h
    exact ⟨p, e, h.1.1.1, h.1.1.2, h.1.2, h.2⟩
  · cases h
theorem Sh_int {i : Int} (h : i.natAbs < 2 ^ 1910) : Sh 0 600 (.int i) := by
  have h10 : i.natAbs < 10 ^ 580 := Nat.lt_of_lt_of_le h (by decide)
  have hl : i.natAbs.log2 < 1920 := by
    by_cases z : i.natAbs = 0
    · rw [z]
      decide
    · have := (Nat.log2_lt z).mpr h
      omega
  refine ⟨.int i, by simp [toPyK], by simpa [PyData.showable] using hl, by simp [PyData.depth], ?_, cps_of _⟩
  have e := int_text_length_le10 (by decide) h10
  show (Str.ofString (toString i)).length ≤ 600
  rw [ofString_length]
  omega
theorem Sh_all {n m : Nat} : ∀ {ds : List D}, (∀ d ∈ ds, Sh n m d) → ∃ ps, toPysK ds = some ps ∧ PyData.showableAll ps = true ∧ PyData.depthAll ps ≤ n ∧ ((PyData.shownAll ps).map (·.length)).sum ≤ ds.length * m ∧ (∀ t ∈ PyData.shownAll ps, Cps t) ∧ (PyData.shownAll ps).length = ds.length
  | [], _ => ⟨[], rfl, rfl, by simp [PyData.depthAll], by simp [PyData.shownAll], fun t h => by simp [PyData.shownAll] at h, rfl⟩
  | d :: ds, h => by
    obtain ⟨p, a1, a2, a3, a4, a5⟩ := h d List.mem_cons_self
    obtain ⟨ps, b1, b2, b3, b4, b5, b6⟩ := Sh_all (ds := ds) fun d' h' => h d' (List.mem_cons_of_mem _ h')
    refine ⟨p :: ps, by simp [toPysK, a1, b1], by simp [PyData.showableAll, a2, b2], ?_, ?_, ?_, ?_⟩
    · simp only [PyData.depthAll]
      omega
    · simp only [PyData.shownAll, List.map_cons, List.sum_cons, List.length_cons]
      rw [Nat.add_mul]
      omega
    · intro t ht
      simp only [PyData.shownAll] at ht
      rcases List.mem_cons.mp ht with rfl | z
      · exact a5
      · exact b5 t z
    · simp [PyData.shownAll, b6]
theorem Sh_tup {n m : Nat} {ds : List D} (h : ∀ d ∈ ds, Sh n m d) : Sh (n + 1) (ds.length * m + 2 * ds.length + 3) (.tup ds) := by
  obtain ⟨ps, b1, b2, b3, b4, b5, b6⟩ := Sh_all h
  refine ⟨.tuple ps, by simp [toPyK, b1], by simpa [PyData.showable] using b2, by simp [PyData.depth]; omega, ?_, ?_⟩
  · have := tupleText_len_le (PyData.shownAll ps)
    simp only [PyData.shown]
    omega
  · simp only [PyData.shown]
    exact ((cps_of "(").app (cps_join _ b5)).app (cps_of _)
theorem Sh_lst {n m : Nat} {ds : List D} (h : ∀ d ∈ ds, Sh n m d) : Sh (n + 1) (ds.length * m + 2 * ds.length + 3) (.lst ds) := by
  obtain ⟨ps, b1, b2, b3, b4, b5, b6⟩ := Sh_all h
  refine ⟨.list ps, by simp [toPyK, b1], by simpa [PyData.showable] using b2, by simp [PyData.depth]; omega, ?_, ?_⟩
  · have := listText_len_le (PyData.shownAll ps)
    simp only [PyData.shown]
    omega
  · simp only [PyData.shown]
    exact (cps_from _ 0 _ (cps_of _) b5).app (cps_of _)
/-- repr gives a text that equals itself -/
theorem rep_Sh {d : D} (h : Sh 60 1000000 d) (hd : (∃ ds, d = .lst ds) ∨ ∃ ds, d = .tup ds) : ∃ s : Str, orN reprS reprQ [d] = some (.sh (.str s)) ∧ neD (.str s) (.str s) = some (.sh (.bl false)) ∧ eqD (.str s) (.str s) = some (.sh (.bl true)) := by
  obtain ⟨p, a1, a2, a3, a4, a5⟩ := h
  refine ⟨p.shown, ?_, neD_cps a5, eqD_cps a5⟩
  rcases hd with ⟨ds, rfl⟩ | ⟨ds, rfl⟩ <;> simp [orN, reprS, reprQ, shwDK, a1, a2, a3, a4]
end FD

end sec_SH
section sec_WM0
set_option maxRecDepth 100000
set_option maxHeartbeats 5000000
/-! WM0: small facts of schemes and caught errors. -/
namespace KL
open PySem L2 FD
local instance tw0 : Tabl := { T := [] }
theorem R_isxI {ρ : FD.Env} {w : W} {bt : String → Bool} {ic xi : List (Str × Bool)} {i : Nat} {cn : Str} {gs : List (Str × D)} {b : Bool} {Q : RV → FD.Env → W → Prop} (h : ρ[i]? = some (some (.val (.exc cn gs)))) (hb : xi.lookup cn = some b) : R (alt (isiM bt ic (varM i)) (op1M (isxD xi) (varM i))) ρ w Q ↔ Q (.sh (.bl b)) ρ w := by
  constructor
  · rintro ⟨a, ρ', w', e, q⟩
    obtain ⟨a2, ρ2, w2, e2, rfl, rfl, rfl⟩ := R_isx (bt := bt) (ic := ic) (Q := fun a ρ'' w'' => a = .sh (.bl b) ∧ ρ'' = ρ ∧ w'' = w) (w := w) h hb ⟨rfl, rfl, rfl⟩
    rw [e] at e2
    cases e2
    exact q
  · exact R_isx h hb
end KL

end sec_WM0
section sec_EV12
set_option maxRecDepth 100000
set_option maxHeartbeats 2000000
/-! EV12: runs of what FD55 to FD59 bring. -/
namespace FD
open PySem L2
variable [Tabl]
section
variable {ρ : Env} {w : W} {f : Str} {cn m : Str} {fo fe : M RV} {fs : M (List RV)} {js : List Nat} {es : List D}
@[simp] theorem R_consD {g : M (List D)} {Q : List D → Env → W → Prop} : R (consD fe g) ρ w Q ↔ R fe ρ w fun r ρ1 w1 => R (escR r) ρ1 w1 fun d ρ2 w2 => R g ρ2 w2 fun ds ρ3 w3 => Q (d :: ds) ρ3 w3 := by
  unfold consD
  simp only [R_bind, R_pure]
@[simp] theorem R_dicM {ks : List Str} {g : M (List D)} {Q : RV → Env → W → Prop} : R (dicM ks g) ρ w Q ↔ R g ρ w fun ds ρ1 w1 => Q (.fr (.dic (zipD ks ds))) ρ1 w1 := by
  unfold dicM
  simp only [R_bind, R_pure]
@[simp] theorem R_setfW {Q : Fl → Env → W → Prop} : R (setfW cn f fo fe) ρ w Q ↔ R fe ρ w fun r ρ1 w1 => R (escR r) ρ1 w1 fun d ρ2 w2 => R fo ρ2 w2 fun r0 ρ3 w3 => ∃ i gs, r0 = .ow i ∧ ρ3[i]? = some (some (.own (.ins cn gs))) ∧ gs.length < 900 ∧ Q .nx (ρ3.set i (some (.own (.ins cn (putD f d gs))))) w3 := by
  unfold setfW
  simp only [R_bind]
  constructor <;> intro h0 <;> refine h0.mono fun r ρ1 w1 h1 => h1.mono fun d ρ2 w2 h2 => h2.mono fun r0 ρ3 w3 h3 => ?_
  · obtain ⟨fl, ρ4, w4, e, q⟩ := h3
    cases r0 with
    | ow i =>
      unfold putW at e
      dsimp only at e
      split at e
      · rename_i c' gs q0
        by_cases z : c' = cn ∧ gs.length < 900
        · rw [if_pos z] at e
          cases e
          obtain ⟨rfl, z2⟩ := z
          exact ⟨i, gs, rfl, q0, z2, q⟩
        · rw [if_neg z] at e
          cases e
      · cases e
    | _ => cases e
  · obtain ⟨i, gs, rfl, e, hl, q⟩ := h3
    refine ⟨_, _, _, ?_, q⟩
    unfold putW
    simp [e, hl]
@[simp] theorem R_meth0X {den : List D → W → Option (Xn × W)} {dd : List D} {Q : Xn → Env → W → Prop} : R (meth0X cn m den dd fo) ρ w Q ↔ R fo ρ w fun r ρ1 w1 => R (selfR cn m r) ρ1 w1 fun d ρ2 w2 => R (runX den (d :: dd)) ρ2 w2 Q := by
  unfold meth0X
  simp only [R_bind]
@[simp] theorem R_raise0 {Q : Xn → Env → W → Prop} : R (raise0 cn) ρ w Q ↔ Q ⟨cn, []⟩ ρ w := by
  unfold raise0
  simp only [R_pure]
end
end FD

end sec_EV12
section sec_EV15
set_option maxRecDepth 100000
set_option maxHeartbeats 2000000
/-! EV15: runs of what FD67 and XD10 bring. -/
namespace FD
open PySem L2
variable [Tabl]
/-- what a slot owns, shown -/
def shw : Option Slot → Option Slot
  | some (.own d) => some (.val d)
  | s => s
@[simp] theorem shw_val {d : D} : shw (some (.val d)) = some (.val d) := rfl
@[simp] theorem shw_own {d : D} : shw (some (.own d)) = some (.val d) := rfl
@[simp] theorem shw_none : shw none = none := rfl
abbrev showAll (ρ : Env) : Env := ρ.map shw
theorem setVs_out : ∀ {js : List Nat} {es : List D} {ρ : Env} {i : Nat}, i ∉ js → (setVs ρ js es)[i]? = ρ[i]?
  | [], _, _, _, _ => rfl
  | _ :: _, [], _, _, _ => rfl
  | j :: js, e :: es, ρ, i, h => by
    show (setVs (ρ.set j (some (.val e))) js es)[i]? = ρ[i]?
    rw [setVs_out fun z => h (List.mem_cons_of_mem _ z), List.getElem?_set_ne fun z => h (by rw [z]; exact List.mem_cons_self)]
theorem setVs_at : ∀ {js : List Nat} {es : List D} {ρ : Env} {i t : Nat} {d : D}, js.Nodup → js[t]? = some i → es[t]? = some d → i < ρ.length → (setVs ρ js es)[i]? = some (some (.val d))
  | [], _, _, _, _, _, _, h, _, _ => by simp at h
  | _ :: _, [], _, _, _, _, _, _, h, _ => by simp at h
  | j :: js, e :: es, ρ, i, t, d, nd, h1, h2, hl => by
    show (setVs (ρ.set j (some (.val e))) js es)[i]? = _
    obtain ⟨n1, n2⟩ := List.nodup_cons.mp nd
    cases t with
    | zero =>
      cases h1
      cases h2
      rw [setVs_out n1, List.getElem?_set_self hl]
    | succ t => exact setVs_at n2 (by simpa using h1) (by simpa using h2) (by rw [List.length_set]; exact hl)
theorem ownIx_mem {ρ : Env} {i : Nat} : i ∈ ownIx ρ ↔ ∃ d, ρ[i]? = some (some (.own d)) := by
  unfold ownIx
  rw [List.mem_filter, List.mem_range]
  constructor
  · rintro ⟨_, h⟩
    split at h
    · rename_i d e
      exact ⟨d, e⟩
    · cases h
  · rintro ⟨d, e⟩
    exact ⟨(List.getElem?_eq_some_iff.mp e).1, by rw [e]⟩
theorem ownIx_nodup (ρ : Env) : (ownIx ρ).Nodup := List.nodup_range.filter _
theorem ownsD_all {ρ : Env} : ∀ {js : List Nat}, (∀ i ∈ js, ∃ d, ρ[i]? = some (some (.own d))) → ∃ es, ownsD ρ js = some es ∧ es.length = js.length ∧ ∀ (t i : Nat) (d : D), js[t]? = some i → ρ[i]? = some (some (.own d)) → es[t]? = some d
  | [], _ => ⟨[], rfl, rfl, fun t i d h => by simp at h⟩
  | j :: js, h => by
    obtain ⟨es, e1, e2, e3⟩ := ownsD_all fun i hi => h i (List.mem_cons_of_mem _ hi)
    obtain ⟨d, ed⟩ := h j List.mem_cons_self
    refine ⟨d :: es, by simp [ownsD, ed, e1], by simp [e2], fun t i d' h1 h2 => ?_⟩
    cases t with
    | zero =>
      cases h1
      rw [ed] at h2
      cases h2
      rfl
    | succ t => exact e3 t i d' (by simpa using h1) h2
theorem show_all (ρ : Env) : ∃ es, ownsD ρ (ownIx ρ) = some es ∧ setVs ρ (ownIx ρ) es = showAll ρ ∧ ∀ e ∈ es, ∃ i : Nat, ρ[i]? = some (some (Slot.own e)) := by
  obtain ⟨es, e1, e2, e3⟩ := ownsD_all (ρ := ρ) (js := ownIx ρ) fun i hi => ownIx_mem.mp hi
  refine ⟨es, e1, List.ext_getElem? fun i => ?_, fun e he => ?_⟩
  · rw [List.getElem?_map]
    by_cases m : i ∈ ownIx ρ
    · obtain ⟨d, ed⟩ := ownIx_mem.mp m
      obtain ⟨t, ht⟩ := List.getElem?_of_mem m
      rw [setVs_at (ownIx_nodup ρ) ht (e3 t i d ht ed) (List.getElem?_eq_some_iff.mp ed).1, ed]
      rfl
    · rw [setVs_out m]
      cases q : ρ[i]? with
      | none => rfl
      | some s =>
        cases s with
        | none => rfl
        | some s =>
          cases s with
          | val d => rfl
          | own d => exact absurd (ownIx_mem.mpr ⟨d, q⟩) m
  · obtain ⟨t, ht⟩ := List.getElem?_of_mem he
    have hl : t < (ownIx ρ).length := by
      rw [← e2]
      exact (List.getElem?_eq_some_iff.mp ht).1
    have m := List.getElem_mem hl
    obtain ⟨d, ed⟩ := ownIx_mem.mp m
    have := e3 t _ d (List.getElem?_eq_getElem hl) ed
    rw [ht] at this
    cases this
    exact ⟨_, ed⟩
section
variable {ρ : Env} {w : W} {f : M RV}
theorem R_showA {Q : RV → Env → W → Prop} (al : ∀ (i : Nat) d, ρ[i]? = some (some (Slot.own d)) → ∃ xs, d = D.lst xs) (h : R f (showAll ρ) w fun r ρ' w' => ∃ d, r = .sh d ∧ nl d = true ∧ ρ' = showAll ρ ∧ w'.st = [] ∧ Q (.sh d) ρ w') : R (showA f) ρ w Q := by
  obtain ⟨r, ρ', w', e, d, rfl, n, rfl, st, q⟩ := h
  obtain ⟨es, e1, e2, e3⟩ := show_all ρ
  refine ⟨_, _, _, ?_, q⟩
  unfold showA showE
  rw [e1]
  dsimp only
  rw [e2, e]
  dsimp only
  rw [if_pos ⟨rfl, ownIx_nodup ρ, n, st, fun j d h => ownIx_mem.mpr ⟨d, h⟩, fun e he => let ⟨i, hi⟩ := e3 e he; al i e hi⟩]
theorem N_showA (h : R f (showAll ρ) w fun r _ _ => ∃ d, r = .fr d) : showA f ρ w = none := by
  obtain ⟨r, ρ', w', e, d, rfl⟩ := h
  obtain ⟨es, e1, e2, e3⟩ := show_all ρ
  unfold showA showE
  rw [e1]
  dsimp only
  rw [e2, e]
theorem mem_toksF : ∀ {n s : Nat} {d : D}, d ∈ toksF s n → ∃ k, k < n ∧ d = .tok (s + k)
  | 0, _, _, h => by cases h
  | n + 1, s, d, h => by
    rcases List.mem_cons.mp h with rfl | h
    · exact ⟨0, by omega, rfl⟩
    · obtain ⟨k, hk, rfl⟩ := mem_toksF h
      exact ⟨k + 1, by omega, by rw [show s + 1 + k = s + (k + 1) by omega]⟩
theorem toksF_len : ∀ {n s : Nat}, (toksF s n).length = n
  | 0, _ => rfl
  | n + 1, s => by rw [toksF, List.length_cons, toksF_len]
theorem R_callT {den : List D → W → Option (RV × W)} {i0 : Nat} {fp : M (List RV)} {Q : RV → Env → W → Prop} (h0 : ρ[i0]? = some (some (.val .draw))) (h : R fp ρ w fun rs ρ1 w1 => rs.length ≤ 1000000 ∧ w1.st = [] ∧ Ran (den [.draw, .lst (toks rs.length)] w1) fun r w2 => ∃ k r', r = .sh (.tok k) ∧ rs[k]? = some r' ∧ w2.st = [] ∧ Q r' ρ1 w2) : R (callT den i0 fp) ρ w Q := by
  obtain ⟨rs, ρ1, w1, e, hl, st, r, w2, e2, k, r', rfl, e3, st2, q⟩ := h
  refine ⟨r', ρ1, w2, ?_, q⟩
  unfold callT
  rw [if_pos h0]
  unfold bindM
  rw [e]
  dsimp only
  rw [e2]
  dsimp only
  rw [if_pos ⟨st, st2, hl⟩, e3]
@[simp] theorem R_makX {cn : Str} {den : List D → W → Option (Xn × W)} {dd : List D} {fa : M (List RV)} {Q : Xn → Env → W → Prop} : R (makX cn den dd fa) ρ w Q ↔ R fa ρ w fun rs ρ1 w1 => R (escAll rs) ρ1 w1 fun ds ρ2 w2 => RanX (den (.ins cn [] :: (ds ++ dd)) w2) fun x w' => Q x ρ2 w' := by
  unfold makX
  simp only [R_bind]
  constructor <;> intro h <;> refine h.mono fun rs ρ1 w1 h => h.mono fun ds ρ2 w2 h => ?_
  · obtain ⟨x, ρ3, w3, e, q⟩ := h
    obtain ⟨e1, rfl⟩ := runX_some e
    exact ⟨x, w3, e1, q⟩
  · obtain ⟨x, w3, e, q⟩ := h
    exact ⟨x, ρ2, w3, by simp [runX, e], q⟩
theorem N_makM {cn : Str} {den : List D → W → Option (List (Str × D) × W)} {dd : List D} {fa : M (List RV)} (h : R fa ρ w fun rs ρ1 w1 => R (escAll rs) ρ1 w1 fun ds ρ2 w2 => den (ds ++ dd) w2 = none) : makM cn den dd fa ρ w = none := by
  obtain ⟨rs, ρ1, w1, e1, ds, ρ2, w2, e2, h⟩ := h
  unfold makM bindM
  rw [e1]
  dsimp only
  rw [e2]
  dsimp only
  rw [h]
end
end FD

end sec_EV15
section sec_K03a
set_option maxRecDepth 100000
set_option maxHeartbeats 5000000
/-! K03a: texts that rise, columns, dependences: what the program and the law say of any value. -/
namespace KL
open PySem L2 FD
open ST (Up up_eq setN mem_setN up_setN)
local instance tk03a : Tabl := { T := [] }
/-- a text whose signs rise and are of m -/
def rsB (m l : List Nat) : Bool := decide (Up l) && l.all fun c => decide (c ∈ m)
theorem setN_up {l : List Nat} : setN l = l ↔ Up l := ⟨fun h => by rw [← h]; exact up_setN l, fun h => up_eq (up_setN l) h fun x => mem_setN⟩
theorem rising_S {l m : List Nat} {w : W} (hl : l.length ≤ 200) (hp : CpOk l) : D_law_is_rising [S l, S m] w = some (.sh (.bl (rsB m l)), w) := by
  refine D_eq ?_
  have e0 : isiD bt_str ic_str (S l) = some true := by simp [isiD, tyB, bt_str]
  have nl : ∀ d ∈ (l.filter fun c => !decide (c ∈ m)).map (fun c => S [c]), NB 60 d := fun d hd => by
    obtain ⟨c, h1, rfl⟩ := List.mem_map.mp hd
    refine NB_S fun z hz => ?_
    rw [List.mem_singleton.mp hz]
    exact hp c (List.mem_filter.mp h1).1
  have n1 := neD_nil nl
  simp [d_law_is_rising, startE, R_var, e0, R_lcM, R_iter, iterD_S]
  refine ⟨⟨rfl, by omega⟩, ?_⟩
  refine R_lcFil (fun c => S [c]) (fun c => !decide (c ∈ m)) (fun c => S [c]) l (fun c hc' => ?_) ?_
  · by_cases z : c ∈ m <;> simp [lcTurn, R_var, wipeE, inS_S, z]
  · have hs := setN_len l
    rw [R_lift2g]
    by_cases q : ∀ c ∈ l, c ∈ m
    · have f0 : l.filter (fun c => !decide (c ∈ m)) = [] := List.filter_eq_nil_iff.mpr fun c hc => by simp [q c hc]
      have a0 : (l.all fun c => decide (c ∈ m)) = true := List.all_eq_true.mpr fun c hc => by simpa using q c hc
      have b0 : rsB m l = decide (setN l = l) := by
        rw [rsB, a0, Bool.and_true]
        exact decide_eq_decide.mpr setN_up.symm
      have q2 : eqD (S (setN l)) (S l) = some (.sh (.bl (decide (setN l = l)))) := eqD_S (fun x hx => hp x (mem_setN.mp hx)) hp
      rw [b0]
      refine ⟨_, rfl, _, rfl, .sh (.bl false), by rw [n1, f0]; rfl, ?_⟩
      simp [R_var, restE, wipeE, lit_e, sset_S, R_lift1', peek, joinD_signs (show (setN l).length ≤ 1000000 by omega), show l.length < 4000 by omega, q2, outR]
    · have f0 : (l.filter (fun c => !decide (c ∈ m))).isEmpty = false := by
        rw [Bool.eq_false_iff]
        intro z
        refine q fun c hc => ?_
        have := List.filter_eq_nil_iff.mp (List.isEmpty_iff.mp z) c hc
        by_cases y : c ∈ m
        · exact y
        · simp [y] at this
      have a0 : rsB m l = false := by
        have : (l.all fun c => decide (c ∈ m)) = false := by
          rw [Bool.eq_false_iff]
          intro z
          exact q fun c hc => by simpa using List.all_eq_true.mp z c hc
        rw [rsB, this, Bool.and_false]
      rw [a0]
      refine ⟨_, rfl, _, rfl, .sh (.bl true), by rw [n1, List.isEmpty_map, f0]; rfl, ?_⟩
      simp [outR]
theorem rising_no {m d : D} {w : W} (h : isiD bt_str ic_str d = some false) : D_law_is_rising [d, m] w = some (.sh (.bl false), w) := by
  refine D_eq ?_
  simp [d_law_is_rising, startE, R_var, h, outR]
theorem is_set_no {cs : List Nat} {d : D} {w : W} (h : isiD bt_str ic_str d = some false) : D_is_set [S cs, d] w = some (.sh (.bl false), w) := by
  refine D_eq ?_
  simp [d_is_set, startE, R_var, h, outR]
theorem is_set_rs {cs l : List Nat} {w : W} (hC : Col cs) (hl : l.length ≤ 200) : D_is_set [S cs, S l] w = some (.sh (.bl (rsB (cs ++ [114]) l)), w) := is_set_eq (by have := hC.len; omega) (by omega)
theorem rs_set {cs l : List Nat} (hC : Col cs) : rsB (cs ++ [114]) l = true ↔ Set_ cs l := by
  unfold rsB
  simp only [Bool.and_eq_true, decide_eq_true_eq, List.all_eq_true]
  exact ⟨fun h => sub_of_up h.1 hC.up h.2, fun h => ⟨h.up hC, fun c hc => h.subset hc⟩⟩
/-- columns -/
def colB (l : List Nat) : Bool := !decide (l = []) && rsB [97, 98, 99, 100] l
theorem colB_iff {l : List Nat} : colB l = true ↔ Col l := by
  unfold colB rsB Col
  simp only [Bool.and_eq_true, Bool.not_eq_true', decide_eq_false_iff_not, decide_eq_true_eq, List.all_eq_true]
  exact ⟨fun h => ⟨sub_of_up h.2.1 (by decide) h.2.2, h.1⟩, fun h => ⟨h.2, List.Pairwise.sublist h.1 (by decide), fun c hc => h.1.subset hc⟩⟩
theorem is_columns_S {l : List Nat} {w : W} (hl : l.length ≤ 200) (hp : CpOk l) : D_is_columns [S l] w = some (.sh (.bl (colB l)), w) := by
  refine D_eq ?_
  have e1 := rises_eq (a := l) (w := w) (by omega)
  have e2 := eqD_S hp (m := []) (fun x hx => nomatch hx)
  by_cases h0 : l = []
  · subst h0
    have e3 : eqD (S []) (.str (st [])) = some (.sh (.bl true)) := by
      have := e2
      simp at this
      exact this
    simp [d_is_columns, startE, R_var, isiD, tyB, bt_str, e3, lit_e, outR, colB]
  · by_cases hu : Up l
    · rw [decide_eq_true hu] at e1
      simp [d_is_columns, startE, R_var, isiD, tyB, bt_str, e1, e2, lit_e, h0, R_lcM, R_iter, iterD_S]
      refine ⟨⟨rfl, by omega⟩, R_lcMap (fun c => S [c]) (fun c => .bl (decide (c ∈ [97, 98, 99, 100]))) l (fun c hc' => ?_) ?_⟩
      · simp [R_var, wipeE, lit_abcd, inS_S]
      · have e : colB l = l.all fun c => decide (c ∈ [97, 98, 99, 100]) := by simp [colB, rsB, h0, hu]
        rw [e]
        simp [R_liftN, peeks, peek, allD_map, outR]
    · rw [decide_eq_false hu] at e1
      simp [d_is_columns, startE, R_var, isiD, tyB, bt_str, e1, e2, lit_e, h0, outR, colB, rsB, hu]
theorem is_columns_no {d : D} {w : W} (h : isiD bt_str ic_str d = some false) : D_is_columns [d] w = some (.sh (.bl false), w) := by
  refine D_eq ?_
  simp [d_is_columns, startE, R_var, h, outR]
theorem need_col_no {d : D} {w : W} (h : D_is_columns [d] w = some (.sh (.bl false), w)) : D_need_columns [d] w = none ∧ X_need_columns [d] w = some (⟨"BadColumns", [("given", d)]⟩, w) := by
  constructor
  · refine D_none (N_bind ?_)
    simp [startE, R_var, h]
    rfl
  · refine X_eq ?_
    simp [x_need_columns, startE, R_var, h]
/-- a part of a dependence: a text, or no text at all -/
def Part (d : D) : Prop := (∃ l, d = S l ∧ CpOk l ∧ l.length ≤ 60) ∨ isiD bt_str ic_str d = some false
/-- the law's word on an item agrees with the program's -/
def Two (cs : List Nat) (d : D) : Prop := (∃ p, d = depD p ∧ Dep cs p ∧ ∀ w, D_law_is_tie [S cs, d] w = some (.sh (.bl true), w)) ∨ (NoDep cs d ∧ ∀ w, D_law_is_tie [S cs, d] w = some (.sh (.bl false), w))
theorem two_not {cs : List Nat} {d : D} (h : isiD bt_tuple ic_tuple d = some false) : Two cs d := .inr ⟨fun w => D_eq (by simp [d_is_dependence, startE, R_var, h, outR]), fun w => D_eq (by simp [d_law_is_tie, startE, R_var, h, outR])⟩
theorem two_len {cs : List Nat} {ds : List D} (h : ds.length ≠ 2) : Two cs (.tup ds) := by
  have n : ¬ ((ds.length : Int) = 2) := by omega
  exact .inr ⟨fun w => D_eq (by simp [d_is_dependence, startE, R_var, isiD, tyB, bt_tuple, R_liftN, peeks, peek, lenD, neD_int, n, outR]), fun w => D_eq (by simp [d_law_is_tie, startE, R_var, isiD, tyB, bt_tuple, R_liftN, peeks, peek, lenD, neD_int, n, outR])⟩
theorem two_pair {cs : List Nat} {a b : D} (hC : Col cs) (ha : Part a) (hb : Part b) : Two cs (.tup [a, b]) := by
  have hc := hC.len
  have a0 : L2.atI [a, b] 0 = some a := rfl
  have a1 : L2.atI [a, b] 1 = some b := rfl
  have ad : addD (S cs) (S [114]) = some (.sh (S (cs ++ [114]))) := addD_S (by simp; omega)
  rcases ha with ⟨la, rfl, pa, na⟩ | ha
  · have i1 := fun w => is_set_rs (w := w) (l := la) hC (by omega)
    have r1 := fun w => rising_S (w := w) (m := cs ++ [114]) (l := la) (by omega) pa
    cases ea : rsB (cs ++ [114]) la with
    | false =>
      rw [ea] at i1 r1
      exact .inr ⟨fun w => D_eq (by simp [d_is_dependence, startE, R_var, isiD, tyB, bt_tuple, R_liftN, peeks, peek, lenD, neD_int, ixD, a0, i1, outR]), fun w => D_eq (by simp [d_law_is_tie, startE, R_var, isiD, tyB, bt_tuple, R_liftN, peeks, peek, lenD, neD_int, ixD, a0, lit_r, ad, r1, outR])⟩
    | true =>
      rw [ea] at i1 r1
      rcases hb with ⟨lb, rfl, pb, nb⟩ | hb
      · have i2 := fun w => is_set_rs (w := w) (l := lb) hC (by omega)
        have r2 := fun w => rising_S (w := w) (m := cs ++ [114]) (l := lb) (by omega) pb
        have hz : lb.length ≤ 1000000 := by omega
        cases eb : rsB (cs ++ [114]) lb with
        | false =>
          rw [eb] at i2 r2
          exact .inr ⟨fun w => D_eq (by simp [d_is_dependence, startE, R_var, isiD, tyB, bt_tuple, R_liftN, peeks, peek, lenD, neD_int, ixD, a0, a1, i1, i2, outR]), fun w => D_eq (by simp [d_law_is_tie, startE, R_var, isiD, tyB, bt_tuple, R_liftN, peeks, peek, lenD, neD_int, ixD, a0, a1, lit_r, ad, r1, r2, outR])⟩
        | true =>
          rw [eb] at i2 r2
          by_cases h1 : lb.length = 1
          · obtain ⟨c, rfl⟩ := List.length_eq_one_iff.mp h1
            refine .inl ⟨(la, c), rfl, ⟨(rs_set hC).mp ea, ((rs_set hC).mp eb).subset (by simp)⟩, fun w => D_eq ?_⟩
            simp [d_law_is_tie, startE, R_var, isiD, tyB, bt_tuple, R_liftN, peeks, peek, lenD, neD_int, eqD_int, ixD, a0, a1, lit_r, ad, r1, r2, st_len, R_lift2g, outR]
          · have h2 : ¬ ((lb.length : Int) = 1) := by omega
            exact .inr ⟨fun w => D_eq (by simp [d_is_dependence, startE, R_var, isiD, tyB, bt_tuple, R_liftN, peeks, peek, lenD, neD_int, eqD_int, ixD, a0, a1, i1, i2, h2, hz, st_len, outR]), fun w => D_eq (by simp [d_law_is_tie, startE, R_var, isiD, tyB, bt_tuple, R_liftN, peeks, peek, lenD, neD_int, eqD_int, ixD, a0, a1, lit_r, ad, r1, r2, h2, hz, st_len, outR])⟩
      · have i2 := fun w => is_set_no (cs := cs) (w := w) hb
        have r2 := fun w => rising_no (m := S (cs ++ [114])) (w := w) hb
        exact .inr ⟨fun w => D_eq (by simp [d_is_dependence, startE, R_var, isiD, tyB, bt_tuple, R_liftN, peeks, peek, lenD, neD_int, ixD, a0, a1, i1, i2, outR]), fun w => D_eq (by simp [d_law_is_tie, startE, R_var, isiD, tyB, bt_tuple, R_liftN, peeks, peek, lenD, neD_int, ixD, a0, a1, lit_r, ad, r1, r2, outR])⟩
  · have i1 := fun w => is_set_no (cs := cs) (w := w) ha
    have r1 := fun w => rising_no (m := S (cs ++ [114])) (w := w) ha
    exact .inr ⟨fun w => D_eq (by simp [d_is_dependence, startE, R_var, isiD, tyB, bt_tuple, R_liftN, peeks, peek, lenD, neD_int, ixD, a0, i1, outR]), fun w => D_eq (by simp [d_law_is_tie, startE, R_var, isiD, tyB, bt_tuple, R_liftN, peeks, peek, lenD, neD_int, ixD, a0, lit_r, ad, r1, outR])⟩
end KL

end sec_K03a
section sec_K03b
set_option maxRecDepth 100000
set_option maxHeartbeats 5000000
/-! K03b: what the law awaits, and what it is told. -/
namespace KL
open PySem L2 FD
open ST (Up up_eq setN mem_setN up_setN)
local instance tk03b : Tabl := { T := [] }
def Bad (cs : List Nat) (x : D) : Prop := NoDep cs x ∧ ∀ w, D_law_is_tie [S cs, x] w = some (.sh (.bl false), w)
theorem part_set {cs l : List Nat} (hC : Col cs) (h : Set_ cs l) : Part (S l) := .inl ⟨l, rfl, h.cp hC, by have := h.len hC; omega⟩
theorem tie_dep {cs : List Nat} {p : List Nat × Nat} {w : W} (hC : Col cs) (h : Dep cs p) : D_law_is_tie [S cs, depD p] w = some (.sh (.bl true), w) := by
  rcases two_pair hC (part_set hC h.1) (part_set hC (one_set h.2)) with ⟨_, _, _, q⟩ | ⟨n, _⟩
  · exact q w
  · have a := n w
    have b := is_dependence_eq (w := w) hC h
    have a : D_is_dependence [S cs, depD p] w = some (.sh (.bl false), w) := a
    rw [a] at b
    cases b
theorem verdict {cs : List Nat} : ∀ {L : List D} {k : Nat}, k ≤ 20 → (∀ d ∈ L, Two cs d) → (∃ ds : List (List Nat × Nat), L = ds.map depD ∧ (∀ p ∈ ds, Dep cs p) ∧ k + ds.length ≤ 20) ∨ ∃ (ds : List (List Nat × Nat)) (x : D) (rest : List D), L = ds.map depD ++ x :: rest ∧ (∀ p ∈ ds, Dep cs p) ∧ k + ds.length ≤ 20 ∧ (k + ds.length = 20 ∨ Bad cs x)
  | [], k, hk, _ => .inl ⟨[], rfl, (fun p hp => by cases hp), by simpa using hk⟩
  | d :: L, k, hk, h => by
    by_cases z : k = 20
    · exact .inr ⟨[], d, L, rfl, fun p hp => (by cases hp), by simpa using hk, .inl (by simpa using z)⟩
    · rcases h d List.mem_cons_self with ⟨p, rfl, hp, _⟩ | b
      · rcases verdict (k := k + 1) (by omega) fun e he => h e (List.mem_cons_of_mem _ he) with ⟨ds, rfl, h1, h2⟩ | ⟨ds, x, rest, rfl, h1, h2, h3⟩
        · exact .inl ⟨p :: ds, rfl, fun q hq => (List.mem_cons.mp hq).elim (fun y => by rw [y]; exact hp) (h1 q), by rw [List.length_cons]; omega⟩
        · exact .inr ⟨p :: ds, x, rest, rfl, fun q hq => (List.mem_cons.mp hq).elim (fun y => by rw [y]; exact hp) (h1 q), by rw [List.length_cons]; omega, h3.imp (fun y => by rw [List.length_cons]; omega) id⟩
      · exact .inr ⟨[], d, L, rfl, fun p hp => (by cases hp), by simpa using hk, .inr b⟩
/-! ### what the law awaits -/
theorem lit_abc : ("abcd" : Str) = st [97, 98, 99, 100] := by decide +kernel
theorem due_cols {l : List Nat} {t : D} {w : W} (hl : l.length ≤ 200) (hp : CpOk l) (h : colB l = false) : D_law_due [S l, t] w = some (.fr (.lst [.str "columns", S l]), w) := by
  have r1 := rising_S (w := w) (m := [97, 98, 99, 100]) hl hp
  have e2 := eqD_S hp (m := []) (fun x hx => nomatch hx)
  refine D_eq ?_
  cases e : rsB [97, 98, 99, 100] l with
  | false =>
    rw [e] at r1
    simp [d_law_due, startE, R_var, lit_abc, r1, outR]
  | true =>
    rw [e] at r1
    have h0 : l = [] := by
      simp [colB, e] at h
      exact h
    subst h0
    have e3 : eqD (S []) (.str (st [])) = some (.sh (.bl true)) := by
      have := e2
      simp at this
      exact this
    simp [d_law_due, startE, R_var, lit_abc, r1, lit_e, e3, outR]
theorem due_nostr {d t : D} {w : W} (h : isiD bt_str ic_str d = some false) : D_law_due [d, t] w = some (.fr (.lst [.str "columns", d]), w) := by
  have r1 := rising_no (m := .str "abcd") (w := w) h
  refine D_eq ?_
  simp [d_law_due, startE, R_var, r1, outR]
section
variable {cs : List Nat} {t : D} {w : W}
theorem col_pre (hC : Col cs) : D_law_is_rising [S cs, S [97, 98, 99, 100]] w = some (.sh (.bl true), w) ∧ eqD (S cs) (.str (st [])) = some (.sh (.bl false)) := by
  have h := colB_iff.mpr hC
  unfold colB at h
  simp only [Bool.and_eq_true, Bool.not_eq_true', decide_eq_false_iff_not] at h
  have r1 := rising_S (w := w) (m := [97, 98, 99, 100]) (l := cs) (by have := hC.len; omega) hC.cp
  rw [h.2] at r1
  have e2 := eqD_S hC.cp (m := []) (fun x hx => nomatch hx)
  rw [decide_eq_false h.1] at e2
  exact ⟨r1, e2⟩
theorem due_kind (hC : Col cs) (h : isiD bt_list_tuple ic_list_tuple t = some false) : D_law_due [S cs, t] w = some (.fr (.lst [.str "dependence", .non]), w) := by
  obtain ⟨r1, e2⟩ := col_pre (w := w) hC
  refine D_eq ?_
  simp [d_law_due, startE, R_var, lit_abc, r1, lit_e, e2, h, outR]
abbrev bodyU : M Fl := ifM (orT (boolM (op2M eqD (varM 2) (pureM (.sh (.int 20))))) (notT (boolM (callM D_law_is_tie [] (consA (varM 0) (consA (varM 3) (pureM []))))))) (retM (lstM (consA (pureM (.sh (.str "dependence"))) (consA (varM 2) (pureM []))))) (pureM .nx)
theorem forL_cons {g : D → M Unit} {body : M Fl} {d : D} {ds : List D} {ρ : FD.Env} {w : W} {Q : Fl → FD.Env → W → Prop} (h : R (g d) ρ w fun _ ρ1 w1 => R body ρ1 w1 fun fl ρ2 w2 => match fl with
    | .nx => R (forL g body ds) ρ2 w2 Q
    | .ct => R (forL g body ds) ρ2 w2 Q
    | .bk => Q .nx ρ2 w2
    | .ret r => Q (.ret r) ρ2 w2) : R (forL g body (d :: ds)) ρ w Q := by
  unfold forL
  simp only [R_bind]
  refine h.mono fun _ ρ1 w1 h => h.mono fun fl ρ2 w2 h => ?_
  cases fl with
  | nx => exact h
  | ct => exact h
  | bk => exact R_pure.mpr h
  | ret r => exact R_pure.mpr h
theorem due_loop (hC : Col cs) {T : List D} {Q : Fl → FD.Env → W → Prop} : ∀ (ds : List (List Nat × Nat)) (k : Nat) (x2 x3 : Option Slot), (∀ p ∈ ds, Dep cs p) → k + ds.length ≤ 20 → (∀ x2 x3, R (forL gN bodyU (numD (k + ds.length) T)) [some (.val (S cs)), some (.val t), x2, x3] w Q) → R (forL gN bodyU (numD k (ds.map depD ++ T))) [some (.val (S cs)), some (.val t), x2, x3] w Q
  | [], k, x2, x3, _, _, h => h x2 x3
  | p :: ds, k, x2, x3, hd, hk, h => by
    rw [List.length_cons] at hk h
    have hp := hd p List.mem_cons_self
    have ni : ¬ ((k : Int) = 20) := by omega
    have td := tie_dep (w := w) hC hp
    rw [List.map_cons, List.cons_append]
    show R (forL gN bodyU (.tup [.int k, depD p] :: numD (k + 1) (ds.map depD ++ T))) _ w Q
    refine forL_cons (R_gN.mpr ?_)
    simp [R_var, eqD_int, ni, td]
    refine due_loop hC ds (k + 1) _ _ (fun q hq => hd q (List.mem_cons_of_mem _ hq)) (by omega) ?_
    rw [show k + 1 + ds.length = k + (ds.length + 1) by omega]
    exact h
theorem due_ok {ds : List (List Nat × Nat)} (hC : Col cs) (hd : ∀ p ∈ ds, Dep cs p) (hl : ds.length ≤ 20) (e1 : isiD bt_list_tuple ic_list_tuple t = some true) (e2 : seqD t = some (ds.map depD)) : D_law_due [S cs, t] w = some (.sh .non, w) := by
  obtain ⟨r1, e3⟩ := col_pre (w := w) hC
  refine D_eq ?_
  simp [d_law_due, startE, R_var, lit_abc, r1, lit_e, e3, e1, R_enumM, e2]
  have := due_loop (t := t) (w := w) hC (T := []) (Q := fun fl ρ w' => fl = .nx ∧ w' = w) ds 0 none none hd (by omega) (fun x2 x3 => by simp [numD, forL])
  rw [List.append_nil] at this
  refine this.mono fun fl ρ w' h => ?_
  obtain ⟨rfl, rfl⟩ := h
  simp [outR]
theorem due_bad {ds : List (List Nat × Nat)} {x : D} {rest : List D} (hC : Col cs) (hd : ∀ p ∈ ds, Dep cs p) (hl : ds.length ≤ 20) (hx : ds.length = 20 ∨ Bad cs x) (e1 : isiD bt_list_tuple ic_list_tuple t = some true) (e2 : seqD t = some (ds.map depD ++ x :: rest)) : D_law_due [S cs, t] w = some (.fr (.lst [.str "dependence", .int ds.length]), w) := by
  obtain ⟨r1, e3⟩ := col_pre (w := w) hC
  refine D_eq ?_
  simp [d_law_due, startE, R_var, lit_abc, r1, lit_e, e3, e1, R_enumM, e2]
  have := due_loop (t := t) (w := w) hC (T := x :: rest) (Q := fun fl ρ w' => fl = .ret (.fr (.lst [.str "dependence", .int ds.length])) ∧ w' = w) ds 0 none none hd (by omega) (fun x2 x3 => by
    rw [Nat.zero_add]
    show R (forL gN bodyU (.tup [.int ds.length, x] :: numD (ds.length + 1) rest)) _ w _
    refine forL_cons (R_gN.mpr ?_)
    by_cases ni : ((ds.length : Int) = 20)
    · simp [R_var, eqD_int, ni]
    · rcases hx with h | h
      · exact absurd (by omega) ni
      · have h2 := h.2 w
        simp [R_var, eqD_int, ni, h2])
  refine this.mono fun fl ρ w' h => ?_
  obtain ⟨rfl, rfl⟩ := h
  simp [outR]
end
/-! ### what the law is told -/
section
variable {d t : D} {w : W}
theorem init_none {d t : D} {w : W} (h : d_Scheme_init [] (none :: startE 2 [d, t]) w = none) : I_Scheme [d, t] w = none := by simp [I_Scheme, denI, h]
theorem told_good {cs : List Nat} {ds : List (List Nat × Nat)} (h : I_Scheme [d, t] w = some (schG cs ds, w)) : D_law_told [d, t] w = some (.sh (sch cs ds), w) := by
  refine D_eq ?_
  unfold d_law_told
  refine R_then (fun ρ' w' => w = w' ∧ ρ' = [some (.val d), some (.val t), some (.val .non), some (.val .non), none]) ?_ ?_
  · simp [startE, R_var]
  rintro _ _ ⟨rfl, rfl⟩
  refine R_then (fun ρ' w' => w = w' ∧ ρ' = [some (.val d), some (.val t), some (.val .non), some (.val (sch cs ds)), none]) (R_try1 ?_) ?_
  · simp [R_var, h]
  rintro _ _ ⟨rfl, rfl⟩
  simp [R_var, isNonD, outR]
theorem told_col (h : I_Scheme [d, t] w = none) (hx : X_Scheme_init [.ins "Scheme" [], d, t] w = some (⟨"BadColumns", [("given", d)]⟩, w)) : D_law_told [d, t] w = some (.fr (.lst [.str "columns", d]), w) := by
  refine D_eq ?_
  unfold d_law_told
  refine R_then (fun ρ' w' => w = w' ∧ ρ' = [some (.val d), some (.val t), some (.val .non), some (.val .non), none]) ?_ ?_
  · simp [startE, R_var]
  rintro _ _ ⟨rfl, rfl⟩
  refine R_then (fun ρ' w' => w = w' ∧ ρ' = [some (.val d), some (.val t), some (.val (.exc "BadColumns" [("given", d)])), some (.val .non), none]) ?_ ?_
  · refine R_try2 (N_bind0 (N_makM ?_)) ?_
    · simp [R_var, h]
    · simp [R_var, hx, xs_MeanError]
  rintro _ _ ⟨rfl, rfl⟩
  obtain ⟨ρ, eρ⟩ : ∃ ρ : FD.Env, ρ = [some (.val d), some (.val t), some (.val (.exc "BadColumns" [("given", d)])), some (.val .non), none] := ⟨_, rfl⟩
  rw [← eρ]
  have at2 : ρ[2]? = some (some (.val (.exc "BadColumns" [("given", d)]))) := by rw [eρ]; rfl
  have c1 : xi_TooMany.lookup ("BadColumns" : Str) = some false := by decide +kernel
  have c2 : xi_ValueError.lookup ("BadColumns" : Str) = some true := by decide +kernel
  have c3 : xi_BadColumns.lookup ("BadColumns" : Str) = some true := by decide +kernel
  have f1 : xfD xf_given "given" (.exc "BadColumns" [("given", d)]) = some (.sh d) := by
    have : xf_given.contains ("BadColumns" : Str) = true := by decide +kernel
    simpa [xfD] using this
  have vr : ∀ Q : RV → FD.Env → W → Prop, R (varM 2) ρ w Q ↔ Q (.sh (.exc "BadColumns" [("given", d)])) ρ w := fun Q => by
    rw [eρ]
    simp [R_var]
  simp [vr, isNonD, R_isxI at2 c1, R_isxI at2 c2, R_isxI at2 c3, f1, outR]
theorem told_dep {v : D} (h : I_Scheme [d, t] w = none) (hx : X_Scheme_init [.ins "Scheme" [], d, t] w = some (⟨"BadDependence", [("at", v)]⟩, w)) : D_law_told [d, t] w = some (.fr (.lst [.str "dependence", v]), w) := by
  refine D_eq ?_
  unfold d_law_told
  refine R_then (fun ρ' w' => w = w' ∧ ρ' = [some (.val d), some (.val t), some (.val .non), some (.val .non), none]) ?_ ?_
  · simp [startE, R_var]
  rintro _ _ ⟨rfl, rfl⟩
  refine R_then (fun ρ' w' => w = w' ∧ ρ' = [some (.val d), some (.val t), some (.val (.exc "BadDependence" [("at", v)])), some (.val .non), none]) ?_ ?_
  · refine R_try2 (N_bind0 (N_makM ?_)) ?_
    · simp [R_var, h]
    · simp [R_var, hx, xs_MeanError]
  rintro _ _ ⟨rfl, rfl⟩
  obtain ⟨ρ, eρ⟩ : ∃ ρ : FD.Env, ρ = [some (.val d), some (.val t), some (.val (.exc "BadDependence" [("at", v)])), some (.val .non), none] := ⟨_, rfl⟩
  rw [← eρ]
  have at2 : ρ[2]? = some (some (.val (.exc "BadDependence" [("at", v)]))) := by rw [eρ]; rfl
  have c1 : xi_TooMany.lookup ("BadDependence" : Str) = some false := by decide +kernel
  have c2 : xi_ValueError.lookup ("BadDependence" : Str) = some true := by decide +kernel
  have c3 : xi_BadColumns.lookup ("BadDependence" : Str) = some false := by decide +kernel
  have c4 : xi_BadDependence.lookup ("BadDependence" : Str) = some true := by decide +kernel
  have f1 : xfD xf_at "at" (.exc "BadDependence" [("at", v)]) = some (.sh v) := by
    have : xf_at.contains ("BadDependence" : Str) = true := by decide +kernel
    simpa [xfD] using this
  have vr : ∀ Q : RV → FD.Env → W → Prop, R (varM 2) ρ w Q ↔ Q (.sh (.exc "BadDependence" [("at", v)])) ρ w := fun Q => by
    rw [eρ]
    simp [R_var]
  simp [vr, isNonD, R_isxI at2 c1, R_isxI at2 c2, R_isxI at2 c3, R_isxI at2 c4, f1, outR]
theorem init_col (h : D_is_columns [d] w = some (.sh (.bl false), w)) : I_Scheme [d, t] w = none ∧ X_Scheme_init [.ins "Scheme" [], d, t] w = some (⟨"BadColumns", [("given", d)]⟩, w) := by
  obtain ⟨h1, h2⟩ := need_col_no h
  constructor
  · refine init_none (N_bind0 (N_call ?_))
    simp [startE, R_var, h1]
  · refine X_eq (R_alt1 ?_)
    simp [startE, R_var, h2]
theorem init_dep {cs : List Nat} {v : D} (hC : Col cs) (h : D_need_dependences [S cs, t] w = none ∧ X_need_dependences [S cs, t] w = some (⟨"BadDependence", [("at", v)]⟩, w)) : I_Scheme [S cs, t] w = none ∧ X_Scheme_init [.ins "Scheme" [], S cs, t] w = some (⟨"BadDependence", [("at", v)]⟩, w) := by
  have n1 := need_columns_eq (w := w) hC
  have n2 : X_need_columns [S cs] w = none := by
    refine X_none (N_bind ?_)
    simp [startE, R_var, is_columns_eq hC]
    rfl
  constructor
  · refine init_none (N_bind ?_)
    simp [startE, R_var, n1]
    refine N_bind0 (N_call ?_)
    simp [startE, R_var, h.1]
  · refine X_eq (R_alt2 (N_callX ?_) ?_)
    · simp [startE, R_var, n2]
    · simp [startE, R_var, n1, h.2]
end
end KL

end sec_K03b
section sec_K03c
set_option maxRecDepth 100000
set_option maxHeartbeats 5000000
/-! K03c: values of any kind, dependences that are bent. -/
namespace KL
open PySem L2 FD
open ST (Up up_eq setN mem_setN up_setN)
local instance tk03c : Tabl := { T := [] }
theorem Sh_str {x : Str} (h : Cps x) (hl : x.cps.size ≤ 100) : Sh 0 5000 (.str x) := by
  obtain ⟨p, a1, a2, a3, a4, a5, a6, a7⟩ := Pl_str h
  have ep : p = .str x := by
    simp [toPy] at a1
    exact a1.symm
  subst ep
  have hs := PyData.shown_le 13 (by omega) _ a6
  exact ⟨.str x, by simp [toPyK], a3, a5, by omega, cps_shown _ a2⟩
/-- a value of any kind -/
structure Odd3 (d : D) : Prop where
  part : Part d
  two : ∀ cs, Col cs → Two cs d
  sh : Sh 8 5000 d
/-- an item of the list that is offered -/
structure Item (d : D) : Prop where
  two : ∀ cs, Col cs → Two cs d
  sh : Sh 10 20000 d
theorem Odd3.item {d : D} (h : Odd3 d) : Item d := ⟨h.two, h.sh.mono (by omega) (by omega)⟩
theorem Sh_S {l : List Nat} (h : CpOk l) (hl : l.length ≤ 100) : Sh 0 5000 (S l) := Sh_str (x := st l) (fun c hc => h c (by simpa [st] using hc)) (by simp [st]; omega)
theorem part_S {l : List Nat} (h : CpOk l) (hl : l.length ≤ 60) : Part (S l) := .inl ⟨l, rfl, h, hl⟩
theorem ofS (x : String) : D.str (Str.ofString x) = S (Str.ofString x).cps.toList := by simp [st]
theorem part_ofS (x : String) (h : x.toList.length ≤ 60) : Part (.str (Str.ofString x)) := by
  rw [ofS]
  exact part_S (cps_of x) (by
    rw [Str.ofString_eq_toList]
    simpa using h)
theorem Sh_ofS (x : String) (h : x.toList.length ≤ 60) : Sh 0 5000 (.str (Str.ofString x)) := by
  rw [ofS]
  refine Sh_S (cps_of x) ?_
  rw [Str.ofString_eq_toList]
  simp
  omega
theorem odd_ofS (x : String) (h : x.toList.length ≤ 60) : Odd3 (.str (Str.ofString x)) := ⟨part_ofS x h, fun cs hC => two_not (by simp [isiD, tyB, bt_tuple]), (Sh_ofS x h).mono (by omega) (by omega)⟩
theorem odd_no {d : D} (h1 : isiD bt_str ic_str d = some false) (h2 : isiD bt_tuple ic_tuple d = some false) (s : shB 8 5000 d = true) : Odd3 d := ⟨.inr h1, fun cs hC => two_not h2, Sh_of s⟩
theorem odd_len {ds : List D} (h : ds.length ≠ 2) (s : shB 8 5000 (.tup ds) = true) : Odd3 (.tup ds) := ⟨.inr (by simp [isiD, tyB, bt_str]), fun cs hC => two_len h, Sh_of s⟩
theorem odd_pair {a b : D} (ha : Part a) (hb : Part b) (s : shB 8 5000 (.tup [a, b]) = true) : Odd3 (.tup [a, b]) := ⟨.inr (by simp [isiD, tyB, bt_str]), fun cs hC => two_pair hC ha hb, Sh_of s⟩
theorem part_no {d : D} (h1 : isiD bt_str ic_str d = some false) : Part d := .inr h1
theorem R_odd3 {b : Nat} {w : W} {Q : RV → W → Prop} (h : Okb (b + 1) w) (q : ∀ d w', Odd3 d → Okb b w' → Q (.sh d) w') : Ran (D_law_odd [.draw] w) Q := by
  refine D_run ?_
  unfold d_law_odd
  rw [R_seq]
  refine (R_some rfl).mpr ?_
  show R (seqM _ _) _ _ _
  rw [R_seq]
  refine (R_some rfl).mpr ?_
  show R (retM _) _ _ _
  simp [startE, R_var, R_own, R_escow]
  refine R_pick h (by simp) (by simp) fun d w1 hd h1 => ?_
  simp [outR]
  refine q d w1 ?_ h1
  have ps : ∀ x : String, x.toList.length ≤ 60 → Part (.str (Str.ofString x)) := part_ofS
  simp at hd
  rcases hd with rfl | rfl | rfl | rfl | rfl | rfl | rfl | rfl | rfl | rfl | rfl | rfl | rfl | rfl | rfl | rfl | rfl | rfl | rfl | rfl | rfl | rfl | rfl | rfl | rfl | rfl | rfl | rfl | rfl | rfl
  all_goals first
    | (refine odd_ofS _ ?_; decide)
    | (refine odd_no ?_ ?_ ?_ <;> first | decide +kernel | (simp [isiD, tyB, bt_str, bt_tuple]; done))
    | (refine odd_len ?_ ?_ <;> first | decide +kernel | (simp; done))
    | (refine odd_pair (ps _ ?_) (ps _ ?_) ?_ <;> decide +kernel)
    | (refine odd_pair (part_no ?_) (part_no ?_) ?_ <;> first | decide +kernel | (simp [isiD, tyB, bt_str]; done))
theorem sh2 {a b : D} (ha : Sh 8 5000 a) (hb : Sh 8 5000 b) : Sh 10 20000 (.tup [a, b]) := (Sh_tup (n := 8) (m := 5000) (ds := [a, b]) fun e he => by
  rcases List.mem_cons.mp he with rfl | he
  · exact ha
  · rw [List.mem_singleton.mp he]
    exact hb).mono (by omega) (by simp)
theorem item_pair {a b : D} (ha : Part a) (hb : Part b) (sa : Sh 8 5000 a) (sb : Sh 8 5000 b) : Item (.tup [a, b]) := ⟨fun cs hC => two_pair hC ha hb, sh2 sa sb⟩
theorem item_dep {cs : List Nat} {p : List Nat × Nat} (hC : Col cs) (h : Dep cs p) : Item (depD p) :=
  item_pair (part_set hC h.1) (part_set hC (one_set h.2)) ((Sh_S (h.1.cp hC) (by have := h.1.len hC; omega)).mono (by omega) (by omega)) ((Sh_S ((one_set h.2).cp hC) (by simp)).mono (by omega) (by omega))
end KL

end sec_K03c
section sec_K03d
set_option maxRecDepth 100000
set_option maxHeartbeats 5000000
/-! K03d: dependences that are bent. -/
namespace KL
open PySem L2 FD
open ST (Up up_eq setN mem_setN up_setN)
local instance tk03d : Tabl := { T := [] }
/-- what comes out: a list of items, or a thing that is no list and no tuple -/
def Bent (r : RV) : Prop := (∃ L : List D, r = .fr (.lst L) ∧ (∀ d ∈ L, Item d) ∧ L.length ≤ 23) ∨ ∃ v, r = .sh v ∧ isiD bt_list_tuple ic_list_tuple v = some false ∧ Sh 10 20000 v
theorem R_bent {cs : List Nat} {ds : List (List Nat × Nat)} {b : Nat} {w : W} {Q : RV → W → Prop} (hC : Col cs) (hd : ∀ p ∈ ds, Dep cs p) (hl : ds.length ≤ 22) (h : Okb (b + 10) w) (q : ∀ r w', Bent r → Okb b w' → Q r w') : Ran (D_law_bent [.draw, S cs, .lst (ds.map depD)] w) Q := by
  refine D_run ?_
  have hit : ∀ d ∈ ds.map depD, Item d := fun d he => by
    obtain ⟨p, hp, rfl⟩ := List.mem_map.mp he
    exact item_dep hC (hd p hp)
  unfold d_law_bent
  obtain ⟨P, hP⟩ : ∃ P : FD.Env → W → Prop, ∀ ρ w, P ρ w ↔ ds ≠ [] ∧ ρ = [some (.val .draw), some (.val (S cs)), some (.val (.lst (ds.map depD))), none, none, none, none, none, none, none] ∧ Okb (b + 8) w := ⟨_, fun _ _ => Iff.rfl⟩
  have first : ∀ {w1 : W}, Okb (b + 9) w1 → R (retM (callT D_law_pick 0 (pend1 (pureM (.sh .non)) (pend1 (pureM (.sh (.int 5))) (pend1 (pureM (.sh (.str "ab"))) (pend1 (shM (pureM (.fr (.dic [])))) (pend1 (op2M addD (varM 2) (lstM (consA (callM D_law_odd [] (consA (varM 0) (pureM []))) (pureM [])))) (pend1 (shM (pureM (.fr (.dit [(.tup [.str "a", .str "r"], .int 1)])))) (pureM []))))))))) (startE 10 [.draw, S cs, .lst (ds.map depD)]) w1 fun fl ρ' w' => ∃ r, fl = .ret r ∧ Bent r ∧ Okb b w' := fun {w1} h1 => by
    simp only [R_bind]
    refine R_callT rfl ?_
    simp [pend1, offR, startE, R_var]
    refine R_odd3 (b := b + 8) h1 fun d w2 ho h2 => ?_
    simp [R_lift2g, peek, addD, offR]
    refine ⟨_, ⟨by omega, rfl⟩, ?_⟩
    simp
    refine ⟨h2.st, ?_⟩
    refine R_pick (b := b) (l := toks 6) (h2.mono (by omega)) (by simp [toksF]) (by rw [toksF_len]; omega) fun e w3 he h3 => ?_
    obtain ⟨k, hk, rfl⟩ := mem_toksF he
    rw [Nat.zero_add]
    refine ⟨k, rfl, ?_⟩
    have hz : w3.st = [] := h3.st
    have lo : ∀ d' ∈ ds.map depD ++ [d], Item d' := fun d' h' => (List.mem_append.mp h').elim (hit d') fun z => by
      rw [List.mem_singleton.mp z]
      exact ho.item
    have z : k = 0 ∨ k = 1 ∨ k = 2 ∨ k = 3 ∨ k = 4 ∨ k = 5 := by omega
    rcases z with rfl | rfl | rfl | rfl | rfl | rfl
    · exact ⟨_, rfl, hz, .inr ⟨_, rfl, by simp [isiD, tyB, bt_list_tuple], Sh_of (by decide +kernel)⟩, h3⟩
    · exact ⟨_, rfl, hz, .inr ⟨_, rfl, by simp [isiD, tyB, bt_list_tuple], Sh_of (by decide +kernel)⟩, h3⟩
    · exact ⟨_, rfl, hz, .inr ⟨_, rfl, by simp [isiD, tyB, bt_list_tuple], Sh_of (by decide +kernel)⟩, h3⟩
    · exact ⟨_, rfl, hz, .inr ⟨_, rfl, by simp [isiD, tyB, bt_list_tuple], Sh_of (by decide +kernel)⟩, h3⟩
    · exact ⟨_, rfl, hz, .inl ⟨_, rfl, lo, by simp; omega⟩, h3⟩
    · exact ⟨_, rfl, hz, .inr ⟨_, rfl, by simp [isiD, tyB, bt_list_tuple], Sh_of (by decide +kernel)⟩, h3⟩
  simp only [R_bind] at first
  have key : R (ifM (orT (boolM (op2M eq0D (varM 2) (lstM (pureM [])))) (boolM (op2M eqD (callM D_law_take [] (consA (varM 0) (consA (pureM (.sh (.int 5))) (pureM [])))) (pureM (.sh (.int 0)))))) (retM (callT D_law_pick 0 (pend1 (pureM (.sh .non)) (pend1 (pureM (.sh (.int 5))) (pend1 (pureM (.sh (.str "ab"))) (pend1 (shM (pureM (.fr (.dic [])))) (pend1 (op2M addD (varM 2) (lstM (consA (callM D_law_odd [] (consA (varM 0) (pureM []))) (pureM [])))) (pend1 (shM (pureM (.fr (.dit [(.tup [.str "a", .str "r"], .int 1)])))) (pureM []))))))))) (pureM .nx)) (startE 10 [.draw, S cs, .lst (ds.map depD)]) w fun fl ρ w => (fl = .nx ∧ P ρ w) ∨ ∃ r, fl = .ret r ∧ Bent r ∧ Okb b w := by
    have fin : ∀ {w1 : W}, Okb (b + 9) w1 → R (retM (callT D_law_pick 0 (pend1 (pureM (.sh .non)) (pend1 (pureM (.sh (.int 5))) (pend1 (pureM (.sh (.str "ab"))) (pend1 (shM (pureM (.fr (.dic [])))) (pend1 (op2M addD (varM 2) (lstM (consA (callM D_law_odd [] (consA (varM 0) (pureM []))) (pureM [])))) (pend1 (shM (pureM (.fr (.dit [(.tup [.str "a", .str "r"], .int 1)])))) (pureM []))))))))) (startE 10 [.draw, S cs, .lst (ds.map depD)]) w1 fun fl ρ w => (fl = .nx ∧ P ρ w) ∨ ∃ r, fl = .ret r ∧ Bent r ∧ Okb b w := fun {w1} h1 => (by simp only [R_bind]; exact first h1 : R (retM _) _ w1 _).mono fun _ _ _ h => .inr h
    obtain ⟨C, hC'⟩ : ∃ C, C = retM (callT D_law_pick 0 (pend1 (pureM (.sh .non)) (pend1 (pureM (.sh (.int 5))) (pend1 (pureM (.sh (.str "ab"))) (pend1 (shM (pureM (.fr (.dic [])))) (pend1 (op2M addD (varM 2) (lstM (consA (callM D_law_odd [] (consA (varM 0) (pureM []))) (pureM [])))) (pend1 (shM (pureM (.fr (.dit [(.tup [.str "a", .str "r"], .int 1)])))) (pureM [])))))))) := ⟨_, rfl⟩
    rw [← hC'] at fin ⊢
    have se : startE 10 [.draw, S cs, .lst (ds.map depD)] = [some (.val .draw), some (.val (S cs)), some (.val (.lst (ds.map depD))), none, none, none, none, none, none, none] := rfl
    rw [se] at fin ⊢
    cases ed : ds with
    | nil =>
      subst ed
      simp [R_var, R_lift2g, peek, eq0_nil]
      exact fin (h.mono (by omega))
    | cons p0 rest =>
      rw [← ed]
      have ne : eq0D (.lst (ds.map depD)) (.lst []) = some (.sh (.bl false)) := by rw [ed]; rfl
      simp [R_var, R_lift2g, peek, ne]
      refine R_take (b := b + 9) (h.mono (by omega)) (by omega) (by omega) fun k w2 k0 k1 h2 => ?_
      by_cases z : k = 0
      · subst z
        simp [eqD_int, peek]
        exact fin h2
      · simp [eqD_int, peek, z]
        exact (hP _ _).mpr ⟨by rw [ed]; simp, rfl, h2.mono (by omega)⟩
  rw [R_seq]
  refine key.mono fun fl ρ1 w1 hk => ?_
  rcases hk with ⟨rfl, hp⟩ | ⟨r, rfl, hb, h1⟩
  · obtain ⟨hne, rfl, h1⟩ := (hP _ _).mp hp
    dsimp only
    have hpos : 0 < ds.length := List.length_pos_iff.mpr hne
    refine R_then (fun ρ w => ∃ i : Nat, i < ds.length ∧ ρ = [some (.val .draw), some (.val (S cs)), some (.val (.lst (ds.map depD))), some (.val (.int i)), some (.own (.lst (ds.map depD))), none, none, none, none, none] ∧ Okb (b + 7) w) ?_ ?_
    · simp [R_var, R_liftN, peeks, peek, lenD]
      refine R_take (b := b + 7) (h1.mono (by omega)) (by omega) (by omega) fun k w2 k0 k1 h2 => ?_
      obtain ⟨i, rfl⟩ := Int.eq_ofNat_of_zero_le k0
      simp [R_var, R_liftN, peeks, peek, listD]
      exact ⟨i, by omega, rfl, h2⟩
    clear h1
    rintro _ w2 ⟨i, hi, rfl, h2⟩
    obtain ⟨p, ep⟩ : ∃ p, p = ds[i] := ⟨_, rfl⟩
    have hpd : Dep cs p := by rw [ep]; exact hd _ (List.getElem_mem hi)
    have ix : ixD (.lst (ds.map depD)) (.int i) = some (.sh (depD p)) := by
      have e : L2.atI (ds.map depD) (i : Int) = some (depD ds[i]) := by
        rw [atI_nat _ i (by simpa using hi)]
        simp
      rw [ep]
      simp [ixD, e]
    obtain ⟨lo, c⟩ := p
    refine R_then (fun ρ w => w2 = w ∧ ρ = [some (.val .draw), some (.val (S cs)), some (.val (.lst (ds.map depD))), some (.val (.int i)), some (.own (.lst (ds.map depD))), some (.val (S lo)), some (.val (S [c])), none, none, none]) ?_ ?_
    · simp [R_var, R_own, R_lift2g, peek, slotD, ix]
    rintro _ _ ⟨rfl, rfl⟩
    refine R_then (fun ρ w => ∃ d : D, Odd3 d ∧ ρ = [some (.val .draw), some (.val (S cs)), some (.val (.lst (ds.map depD))), some (.val (.int i)), some (.own (.lst (ds.map depD))), some (.val (S lo)), some (.val (S [c])), some (.val d), none, none] ∧ Okb (b + 6) w) ?_ ?_
    · simp [R_var]
      refine R_odd3 (b := b + 6) h2 fun d w3 ho h3 => ?_
      simp
      exact ⟨d, ho, rfl, h3⟩
    clear h2
    rintro _ w3 ⟨d, ho, rfl, h3⟩
    refine R_then (fun ρ w => w3 = w ∧ ρ = [some (.val .draw), some (.val (S cs)), some (.val (.lst (ds.map depD))), some (.val (.int i)), some (.own (.lst (ds.map depD))), some (.val (S lo)), some (.val (S [c])), some (.val d), some (.own (.lst [.tup [S lo, S [c], .str "a"], .lst [S lo, S [c]], .tup [S lo], .tup [d, S [c]], .tup [S lo, d], .tup [S lo, .str ""], .tup [S lo, .str "ab"]])), none]) ?_ ?_
    · simp [R_var]
    rintro _ _ ⟨rfl, rfl⟩
    have m1 : lo.length ≤ 5 := hpd.1.len hC
    have plo1 : CpOk lo := hpd.1.cp hC
    have pc1 : CpOk [c] := (one_set hpd.2).cp hC
    have so : ∀ {l : List Nat}, CpOk l → l.length ≤ 60 → Sh 8 5000 (S l) := fun h1 h2 => (Sh_S h1 (by omega)).mono (by omega) (by omega)
    have ss : ∀ x : String, x.toList.length ≤ 60 → Sh 8 5000 (.str (Str.ofString x)) := fun x hx => (Sh_ofS x hx).mono (by omega) (by omega)
    have plp : Part (S lo) := part_S plo1 (by omega)
    have pcp : Part (S [c]) := part_S pc1 (by simp)
    have slo := so plo1 (by omega)
    have sc := so pc1 (by simp)
    obtain ⟨L1, eL1⟩ : ∃ L1 : List D, L1 = [.tup [S lo, S [c], .str "a"], .lst [S lo, S [c]], .tup [S lo], .tup [d, S [c]], .tup [S lo, d], .tup [S lo, .str ""], .tup [S lo, .str "ab"]] := ⟨_, rfl⟩
    have lL1 : L1.length = 7 := by rw [eL1]; rfl
    have hL1 : ∀ e ∈ L1, Item e := fun e he => by
      rw [eL1] at he
      simp only [List.mem_cons, List.not_mem_nil, or_false] at he
      rcases he with rfl | rfl | rfl | rfl | rfl | rfl | rfl
      · refine ⟨fun cs hC => two_len (by simp), (Sh_tup (n := 8) (m := 5000) fun e he => ?_).mono (by omega) (by simp)⟩
        simp only [List.mem_cons, List.not_mem_nil, or_false] at he
        rcases he with rfl | rfl | rfl
        · exact slo
        · exact sc
        · exact ss "a" (by decide)
      · refine ⟨fun cs hC => two_not (by simp [isiD, tyB, bt_tuple]), (Sh_lst (n := 8) (m := 5000) fun e he => ?_).mono (by omega) (by simp)⟩
        simp only [List.mem_cons, List.not_mem_nil, or_false] at he
        rcases he with rfl | rfl
        · exact slo
        · exact sc
      · refine ⟨fun cs hC => two_len (by simp), (Sh_tup (n := 8) (m := 5000) fun e he => ?_).mono (by omega) (by simp)⟩
        rw [List.mem_singleton.mp he]
        exact slo
      · exact item_pair ho.part pcp ho.sh sc
      · exact item_pair plp ho.part slo ho.sh
      · exact item_pair plp (part_ofS "" (by decide)) slo (ss "" (by decide))
      · exact item_pair plp (part_ofS "ab" (by decide)) slo (ss "ab" (by decide))
    rw [← eL1]
    have n1 : lo.length ≤ 5 := hpd.1.len hC
    have plo : CpOk lo := hpd.1.cp hC
    have pc : CpOk [c] := (one_set hpd.2).cp hC
    have c114 : CpOk [114] := fun x hx => by rw [List.mem_singleton.mp hx]; decide
    have a1 : addD (S lo) (S [114]) = some (.sh (S (lo ++ [114]))) := addD_S (by simp; omega)
    have a2 : addD (S [114]) (S lo) = some (.sh (S ([114] ++ lo))) := addD_S (by simp; omega)
    have a3 : addD (S [c]) (S [c]) = some (.sh (S ([c] ++ [c]))) := addD_S (by simp)
    have a4 : addD (S lo) (S lo) = some (.sh (S (lo ++ lo))) := addD_S (by omega)
    refine R_then (fun ρ w => w3 = w ∧ ∃ L2 : List D, (∀ e ∈ L2, Item e) ∧ L2.length = 12 ∧ ρ = [some (.val .draw), some (.val (S cs)), some (.val (.lst (ds.map depD))), some (.val (.int i)), some (.own (.lst (ds.map depD))), some (.val (S lo)), some (.val (S [c])), some (.val d), some (.own (.lst L2)), none]) ?_ ?_
    · have ad : ∀ M : List D, M.length ≤ 20 → addD (.lst L1) (.lst M) = some (.fr (.lst (L1 ++ M))) := fun M hM => by
        simp only [addD]
        rw [if_pos (by omega)]
      simp only [setM', R_bind, R_op2, R_lstM, R_consA, R_tupM, R_pure]
      simp [R_var, R_own, lit_r, R_lift2g, peek, slotD, a1, a2, a3, a4]
      refine ⟨_, ad _ (by simp), ?_⟩
      have q1 : CpOk (lo ++ [114]) := fun x hx => (List.mem_append.mp hx).elim (plo1 x) (c114 x)
      have q2 : CpOk (114 :: lo) := fun x hx => (List.mem_cons.mp hx).elim (fun z => by rw [z]; decide) (plo1 x)
      have q3 : CpOk [c, c] := fun x hx => pc1 x (by simpa using hx)
      have q4 : CpOk (lo ++ lo) := fun x hx => (List.mem_append.mp hx).elim (plo1 x) (plo1 x)
      have hI : ∀ e ∈ L1 ++ [D.tup [S (lo ++ [114]), S [c]], D.tup [S (114 :: lo), S [c]], D.tup [S lo, S [c, c]], D.tup [S (lo ++ lo), S [c]], d], Item e := fun e he => by
        rcases List.mem_append.mp he with he | he
        · exact hL1 e he
        simp only [List.mem_cons, List.not_mem_nil, or_false] at he
        rcases he with rfl | rfl | rfl | rfl | rfl
        · exact item_pair (part_S q1 (by simp; omega)) pcp (so q1 (by simp; omega)) sc
        · exact item_pair (part_S q2 (by simp; omega)) pcp (so q2 (by simp; omega)) sc
        · exact item_pair plp (part_S q3 (by simp)) slo (so q3 (by simp))
        · exact item_pair (part_S q4 (by simp; omega)) pcp (so q4 (by simp; omega)) sc
        · exact ho.item
      simp
      exact ⟨fun e he => hI e (by simpa using he), by omega⟩
    rintro _ _ ⟨rfl, L2, hL2, lL2, rfl⟩
    refine R_then (fun ρ w => w3 = w ∧ ∃ L3 : List D, (∀ e ∈ L3, Item e) ∧ L3 ≠ [] ∧ L3.length = 23 ∧ ρ = [some (.val .draw), some (.val (S cs)), some (.val (.lst (ds.map depD))), some (.val (.int i)), some (.own (.lst (ds.map depD))), some (.val (S lo)), some (.val (S [c])), some (.val d), some (.own (.lst L3)), none]) ?_ ?_
    · obtain ⟨M, eM⟩ : ∃ M : List String, M = ["a", "b", "c", "d", "ad", "z"] := ⟨_, rfl⟩
      have em : [D.str (Str.ofString "a"), D.str (Str.ofString "b"), D.str (Str.ofString "c"), D.str (Str.ofString "d"), D.str (Str.ofString "ad"), D.str (Str.ofString "z")] = M.map fun x => D.str (Str.ofString x) := by rw [eM]; rfl
      obtain ⟨N, eN⟩ : ∃ N : List Nat, N = (Str.ofString "abcdz").cps.toList := ⟨_, rfl⟩
      have lN : N.length = 5 := by rw [eN]; decide +kernel
      have cN : CpOk N := by rw [eN]; exact cps_of _
      have sz : (Str.ofString "abcdz").cps.size ≤ 1000000 := by decide +kernel
      simp [R_var, R_own, R_lcM, iterD]
      rw [em, ← eN]
      refine ⟨rfl, R_lcMap (fun x => D.str (Str.ofString x)) (fun x => .tup [.str (Str.ofString x), S [c]]) M (fun x hx => ?_) ?_⟩
      · simp [R_var, wipeE]
      have ad : addD (.lst L2) (.lst (M.map fun x => D.tup [.str (Str.ofString x), S [c]])) = some (.fr (.lst (L2 ++ M.map fun x => D.tup [.str (Str.ofString x), S [c]]))) := by
        simp only [addD]
        rw [if_pos (by rw [List.length_map, eM]; simp; omega)]
      simp only [R_lift2g]
      refine ⟨_, rfl, _, rfl, _, ad, ?_⟩
      refine ⟨⟨rfl, sz⟩, R_lcMap (fun c => D.str { cps := #[c] }) (fun x => .tup [S lo, S [x]]) N (fun x hx => ?_) ?_⟩
      · simp [R_var, wipeE, restE]
      have ad2 : addD (.lst (L2 ++ M.map fun x => D.tup [.str (Str.ofString x), S [c]])) (.lst (N.map fun x => D.tup [S lo, S [x]])) = some (.fr (.lst (L2 ++ (M.map fun x => D.tup [.str (Str.ofString x), S [c]]) ++ N.map fun x => D.tup [S lo, S [x]]))) := by
        simp only [addD]
        rw [if_pos (by simp [eM, lN]; omega)]

      refine ⟨_, rfl, _, rfl, _, ad2, ?_⟩
      obtain ⟨L3, eL3⟩ : ∃ L3, L3 = L2 ++ (M.map fun x => D.tup [.str (Str.ofString x), S [c]]) ++ N.map fun x => D.tup [S lo, S [x]] := ⟨_, rfl⟩
      have lL3 : L3.length = 23 := by
        rw [eL3]
        simp [eM, lN, lL2]
      have hL3 : ∀ e ∈ L3, Item e := fun e he => by
        rw [eL3] at he
        rcases List.mem_append.mp he with he | he
        · rcases List.mem_append.mp he with he | he
          · exact hL2 e he
          · obtain ⟨x, hx, rfl⟩ := List.mem_map.mp he
            rw [eM] at hx
            have hx : x.toList.length ≤ 60 := by
              simp only [List.mem_cons, List.not_mem_nil, or_false] at hx
              rcases hx with rfl | rfl | rfl | rfl | rfl | rfl <;> decide
            exact item_pair (part_ofS x hx) pcp (ss x hx) sc
        · obtain ⟨x, hx, rfl⟩ := List.mem_map.mp he
          have px : CpOk [x] := fun y hy => by rw [List.mem_singleton.mp hy]; exact cN x hx
          exact item_pair plp (part_S px (by simp)) slo (so px (by simp))
      rw [← eL3]
      show R (asgM 8 (.fr (.lst L3))) [some (.val .draw), some (.val (S cs)), some (.val (.lst (ds.map depD))), some (.val (.int i)), some (.own (.lst (ds.map depD))), some (.val (S lo)), some (.val (S [c])), some (.val d), some (.own (.lst L2)), none] w3 _
      simp
      exact ⟨L3, hL3, (fun z => by rw [z] at lL3; cases lL3), lL3, rfl⟩
    rintro _ _ ⟨rfl, L3, hL3, nL3, lL3, rfl⟩
    refine R_then (fun ρ w => ∃ e : D, Item e ∧ ρ = [some (.val .draw), some (.val (S cs)), some (.val (.lst (ds.map depD))), some (.val (.int i)), some (.own (.lst ((ds.map depD).set i e))), some (.val (S lo)), some (.val (S [c])), some (.val d), some (.val (.lst L3)), none] ∧ Okb b w) ?_ ?_
    · refine R_lput ?_
      simp [R_var, R_own, R_escow]
      refine R_pick (b := b) (h3.mono (by omega)) nL3 (by omega) fun e w4 he h4 => ?_
      simp [R_var]
      refine ⟨⟨_, rfl⟩, ds.map depD, rfl, i, rfl, by simpa using hi, e, hL3 e he, rfl, h4⟩
    rintro _ w4 ⟨e, he, rfl, h4⟩
    simp [R_own, outR]
    refine q _ _ (.inl ⟨_, rfl, fun x hx => ?_, by simp; omega⟩) h4
    rcases List.mem_or_eq_of_mem_set hx with z | z
    · exact hit x z
    · rw [z]
      exact he
  · dsimp only
    rcases id hb with ⟨L, rfl, _⟩ | ⟨v, rfl, _⟩ <;> exact ⟨_, rfl, q _ _ hb h1⟩
end KL

end sec_K03d
section sec_K03e
set_option maxRecDepth 100000
set_option maxHeartbeats 5000000
/-! K03e: both verdicts agree. -/
namespace KL
open PySem L2 FD
open ST (Up up_eq setN mem_setN up_setN)
local instance tk03e : Tabl := { T := [] }
/-- what is offered as dependences -/
inductive Ties : D → Prop
  | lst {L : List D} : (∀ d ∈ L, Item d) → L.length ≤ 23 → Ties (.lst L)
  | odd {v : D} : isiD bt_list_tuple ic_list_tuple v = some false → Sh 10 20000 v → Ties v
def Good (d t : D) : Prop := ∃ (cs : List Nat) (ds : List (List Nat × Nat)), d = S cs ∧ t = .lst (ds.map depD) ∧ Col cs ∧ (∀ p ∈ ds, Dep cs p) ∧ ds.length ≤ 20
def Wrong (d t : D) : Prop := ∃ (x : Str) (v : D), Sh 0 5000 (.str x) ∧ Sh 10 20000 v ∧ (∀ w, D_law_due [d, t] w = some (.fr (.lst [.str x, v]), w)) ∧ ∀ w, D_law_told [d, t] w = some (.fr (.lst [.str x, v]), w)
theorem sh_col : Sh 0 5000 (.str "columns") := Sh_ofS "columns" (by decide)
theorem sh_dep : Sh 0 5000 (.str "dependence") := Sh_ofS "dependence" (by decide)
theorem lt_lst {L : List D} : isiD bt_list_tuple ic_list_tuple (.lst L) = some true := by simp [isiD, tyB, bt_list_tuple]
theorem both {d t : D} (hp : Part d) (hs : Sh 8 5000 d) (ht : Ties t) : Good d t ∨ Wrong d t := by
  have hs' : Sh 10 20000 d := hs.mono (by omega) (by omega)
  rcases hp with ⟨l, rfl, cp, hl⟩ | hn
  · cases e : colB l with
    | false =>
      refine .inr ⟨"columns", S l, sh_col, hs', fun w => due_cols (by omega) cp e, fun w => ?_⟩
      have ic := is_columns_S (w := w) (l := l) (by omega) cp
      rw [e] at ic
      obtain ⟨h1, h2⟩ := init_col (t := t) ic
      exact told_col h1 h2
    | true =>
      have hC := colB_iff.mp e
      cases ht with
      | odd h1 h2 =>
        refine .inr ⟨"dependence", .non, sh_dep, (Sh_of (n := 0) (m := 100) (by decide +kernel)).mono (by omega) (by omega), fun w => due_kind hC h1, fun w => ?_⟩
        obtain ⟨h3, h4⟩ := init_dep hC (need_dep_kind (cs := l) (w := w) h1)
        exact told_dep h3 h4
      | @lst L h1 h2 =>
        rcases verdict (k := 0) (by omega) fun d hd => (h1 d hd).two l hC with ⟨ds, rfl, hd, hk⟩ | ⟨ds, x, rest, rfl, hd, hk, hx⟩
        · exact .inl ⟨l, ds, rfl, rfl, hC, hd, by omega⟩
        · have hx : ds.length = 20 ∨ Bad l x := hx.imp (fun y => by omega) id
          have sl : Sh 10 20000 (.int ds.length) := (Sh_int (Nat.lt_of_lt_of_le (show ((ds.length : Nat) : Int).natAbs < 21 by omega) (by decide))).mono (by omega) (by omega)
          refine .inr ⟨"dependence", .int ds.length, sh_dep, sl, fun w => due_bad hC hd (by omega) hx lt_lst rfl, fun w => ?_⟩
          obtain ⟨h3, h4⟩ := init_dep hC (need_dep_at (w := w) lt_lst rfl hC hd (by omega) (hx.imp id And.left))
          exact told_dep h3 h4
  · refine .inr ⟨"columns", d, sh_col, hs', fun w => due_nostr hn, fun w => ?_⟩
    obtain ⟨h1, h2⟩ := init_col (t := t) (is_columns_no (w := w) hn)
    exact told_col h1 h2
theorem Ties.sh {t : D} (h : Ties t) : Sh 11 500000 t := by
  cases h with
  | odd h1 h2 => exact h2.mono (by omega) (by omega)
  | @lst L h1 h2 =>
    have := Sh_lst (n := 10) (m := 20000) fun d hd => (h1 d hd).sh
    refine this.mono (by omega) ?_
    have := Nat.mul_le_mul_right 20000 h2
    omega
theorem sh_both {d t : D} (hs : Sh 8 5000 d) (ht : Sh 11 490000 t) : Sh 60 1000000 (.tup [d, t]) := by
  have := Sh_tup (n := 11) (m := 490000) (ds := [d, t]) fun e he => by
    rcases List.mem_cons.mp he with rfl | he
    · exact hs.mono (by omega) (by omega)
    · rw [List.mem_singleton.mp he]
      exact ht
  exact this.mono (by omega) (by simp)
theorem Ties.sh' {t : D} (h : Ties t) : Sh 11 490000 t := by
  cases h with
  | odd h1 h2 => exact h2.mono (by omega) (by omega)
  | @lst L h1 h2 =>
    have := Sh_lst (n := 10) (m := 20000) fun d hd => (h1 d hd).sh
    refine this.mono (by omega) ?_
    have := Nat.mul_le_mul_right 20000 h2
    omega
theorem sh_two {x : Str} {v : D} (h1 : Sh 0 5000 (.str x)) (h2 : Sh 10 20000 v) : Sh 60 1000000 (.lst [.lst [.str x, v], .lst [.str x, v]]) := by
  have a := Sh_lst (n := 10) (m := 20000) (ds := [.str x, v]) fun e he => by
    rcases List.mem_cons.mp he with rfl | he
    · exact h1.mono (by omega) (by omega)
    · rw [List.mem_singleton.mp he]
      exact h2
  have := Sh_lst (n := 11) (m := 50000) (ds := [.lst [.str x, v], .lst [.str x, v]]) fun e he => by
    have he : e = .lst [.str x, v] := by simpa using he
    rw [he]
    exact a.mono (by omega) (by simp)
  exact this.mono (by omega) (by simp)
theorem nl_deps (ds : List (List Nat × Nat)) : nls (ds.map depD) = true := by
  induction ds with
  | nil => rfl
  | cons a l ih => simp [nls, nl, ih]
theorem nl_sch (cs : List Nat) (ds : List (List Nat × Nat)) : nl (sch cs ds) = true := by
  simp [nl, nlf, nl_deps]
end KL

end sec_K03e
section sec_K03
set_option maxRecDepth 100000
set_option maxHeartbeats 5000000
/-! K03: the law of schemes made. -/
namespace KL
open PySem L2 FD
open ST (Up up_eq setN mem_setN up_setN)
local instance tk03 : Tabl := { T := [] }
structure Deps (cs : List Nat) (ds : List (List Nat × Nat)) : Prop where
  all : ∀ p ∈ ds, Dep cs p
def nv (x : Option Slot) : Prop := x = none ∨ ∃ d, x = some (.val d)
theorem nv_shw {x : Option Slot} (h : nv x) : shw x = x := by
  rcases h with rfl | ⟨d, rfl⟩ <;> rfl
theorem rev_st (l : List Nat) : revS (S l) = if l.length ≤ 1000000 then some (.sh (S l.reverse)) else none := by
  have e : revX (st l) = st l.reverse := by simp [revX, st]
  show (if (st l).length ≤ 1000000 then some (RV.sh (.str (revX (st l)))) else none) = _
  rw [e, st_len]
theorem ix0_S {c : Nat} {l : List Nat} (h : l.length ≤ 1000) : ixD (S (c :: l)) (.int 0) = some (.sh (S [c])) := by
  simp [ixD]
  have := atI_nat (c :: l) 0 (by simp)
  exact ⟨by rw [st_len]; simp; omega, by simpa using this⟩
theorem R_escval {ρ : FD.Env} {w : W} {i : Nat} {d : D} {Q : D → FD.Env → W → Prop} (h : ρ[i]? = some (some (.val d))) : R (escR (.ow i)) ρ w Q ↔ Q d ρ w := R_some (by simp [escR, h])
theorem R_poke3 {ρ : FD.Env} {w : W} {i : Nat} {g : List D → List D} {ds : List D} {Q : RV → FD.Env → W → Prop} (h : ρ[i]? = some (some (.own (.lst ds)))) : R (pokeM g i) ρ w Q ↔ Q (.sh .non) (ρ.set i (some (.own (.lst (g ds))))) w := R_some (by unfold pokeM ownL; simp [h])
theorem sch_cols {cs : List Nat} {dd : D} {w : W} : D_Scheme_columns [schD cs dd] w = some (.sh (S cs), w) := by
  refine D_eq ?_
  simp [d_Scheme_columns, startE, R_var, fld_c, outR]
theorem sch_deps {cs : List Nat} {dd : D} {w : W} : D_Scheme_dependences [schD cs dd] w = some (.sh dd, w) := by
  refine D_eq ?_
  have n1 : (("own_dependences" : Str) == ("own_columns" : Str)) = false := by decide +kernel
  have f : fldD "Scheme" "own_dependences" (schD cs dd) = some (.sh dd) := by
    unfold fldD
    simp [List.lookup_cons, n1]
  simp [d_Scheme_dependences, startE, R_var, f, outR]
/-- no other thing than a list is owned -/
def ol (x : Option Slot) : Prop := ∀ e, x = some (.own e) → ∃ xs, e = D.lst xs
theorem ol_val {d : D} : ol (some (.val d)) := fun e h => by cases h
theorem ol_lst {L : List D} : ol (some (.own (.lst L))) := fun e h => by cases h; exact ⟨_, rfl⟩
theorem nv_ol {x : Option Slot} (h : nv x) : ol x := fun e q => by
  rcases h with rfl | ⟨d, rfl⟩ <;> cases q
theorem al_of {ρ : FD.Env} (h : ∀ x ∈ ρ, ol x) : ∀ (j : Nat) e, ρ[j]? = some (some (Slot.own e)) → ∃ xs, e = D.lst xs := fun j e q => h _ (List.mem_of_getElem? q) e rfl
/-- the slot of what is offered -/
inductive TieS : D → Slot → Prop
  | own {L : List D} : TieS (.lst L) (.own (.lst L))
  | val {v : D} : isiD bt_list_tuple ic_list_tuple v = some false → TieS v (.val v)
theorem law_true : ∀ ns : List Int, ns.length ≤ 63 → (∀ z ∈ ns, Builtin.Int.intBits z ≤ 1048576) → law ns = true := by
  intro ns h1 _
  refine law_run (fun ns w hns hb => ?_) ns h1
  have hm : minD [.int (ns.length : Int), .int 16] = some (.sh (.int (if (16 : Int) < ns.length then 16 else ns.length))) := rfl
  simp [d_law, startE, R_var, R_liftN, peeks, peek, lenD, hm, addD]
  rw [R_range' (by split <;> omega)]
  obtain ⟨J, hJ⟩ : ∃ J : List Nat → FD.Env → W → Prop, ∀ rest ρ w', J rest ρ w' ↔ ∃ x2 x3 x4 x5 x6 x7 x8 x9 x10 x11 : Option Slot, ρ = [some (.val (.scr ns)), some (.val .draw), x2, x3, x4, x5, x6, x7, x8, x9, x10, x11] ∧ (nv x4 ∧ nv x5 ∧ nv x6 ∧ nv x8 ∧ nv x9 ∧ nv x10 ∧ nv x11) ∧ rest.length ≤ 20 ∧ Okb (1000 * rest.length) w' := ⟨_, fun _ _ _ => Iff.rfl⟩
  refine R_forLm (fun i : Nat => D.int (i : Int)) J ?_ ?_ _ _ _ ((hJ _ _ _).mpr ⟨none, none, none, none, none, none, none, none, none, none, rfl, ⟨.inl rfl, .inl rfl, .inl rfl, .inl rfl, .inl rfl, .inl rfl, .inl rfl⟩, by simp; split <;> omega, hb.mono (by simp; split <;> omega)⟩)
  · intro i rest ρ w' hj
    obtain ⟨x2, x3, x4, x5, x6, x7, x8, x9, x10, x11, rfl, ⟨n4, n5, n6, n8, n9, n10, n11⟩, hl, hb⟩ := (hJ _ _ _).mp hj
    simp only [List.length_cons] at hl hb
    simp only [R_gName, List.set_cons_succ, List.set_cons_zero, List.set_nil]
    refine R_then (fun ρ w => ∃ (cs : List Nat) (ds : List (List Nat × Nat)), ρ = [some (.val (.scr ns)), some (.val .draw), some (.val (.int i)), some (.val (.tup (ds.map depD))), x4, x5, x6, some (.val (S cs)), x8, x9, x10, x11] ∧ Col cs ∧ Deps cs ds ∧ ds.length ≤ 6 ∧ Okb (1000 * rest.length + 700) w) ?_ ?_
    · simp [R_var]
      refine R_drawn (b := 1000 * rest.length + 700) (m := 4) (t := 6) (hb.mono (by omega)) (by omega) (by omega) (by omega) (by omega) fun cs ds w1 hC _ hd hdl h1 => ?_
      simp
      exact ⟨cs, ds, ⟨rfl, rfl⟩, hC, ⟨hd⟩, hdl, h1⟩
    rintro ρ1 w1 ⟨cs, ds, rfl, hC, hd, hdl, h1⟩
    have hc := hC.len
    refine R_then (fun ρ w => w1 = w ∧ ρ = [some (.val (.scr ns)), some (.val .draw), some (.val (.int i)), some (.own (.lst (ds.map depD))), x4, x5, x6, some (.val (S cs)), x8, x9, x10, x11]) ?_ ?_
    · simp [R_var, R_liftN, peeks, peek, listD]
    rintro _ _ ⟨rfl, rfl⟩
    -- many of them
    refine R_then (fun ρ w => ∃ es : List (List Nat × Nat), Deps cs es ∧ es.length ≤ 22 ∧ ρ = [some (.val (.scr ns)), some (.val .draw), some (.val (.int i)), some (.own (.lst (es.map depD))), x4, x5, x6, some (.val (S cs)), x8, x9, x10, x11] ∧ Okb (1000 * rest.length + 600) w) ?_ ?_
    · simp [R_var]
      refine R_take (b := 1000 * rest.length + 650) (h1.mono (by omega)) (by omega) (by omega) fun k w2 k0 k1 h2 => ?_
      by_cases z : k = 0
      · subst z
        obtain ⟨c0, cs', ecs⟩ : ∃ c0 cs', cs = c0 :: cs' := by
          cases e : cs with
          | nil => exact absurd e hC.2
          | cons c0 cs' => exact ⟨c0, cs', rfl⟩
        obtain ⟨es, ees⟩ : ∃ es, es = ds ++ [([114], c0)] := ⟨_, rfl⟩
        have hes : ∀ p ∈ es, Dep cs p := fun p hp => by
          rw [ees] at hp
          rcases List.mem_append.mp hp with hp | hp
          · exact hd.all p hp
          · rw [List.mem_singleton.mp hp]
            exact ⟨List.sublist_append_right cs [114], by rw [ecs]; simp⟩
        have les : es.length ≤ 7 := by rw [ees]; simp; omega
        obtain ⟨fs, efs⟩ : ∃ fs, fs = (List.replicate 21 es).flatten := ⟨_, rfl⟩
        have hfs : ∀ p ∈ fs, Dep cs p := fun p hp => by
          rw [efs] at hp
          obtain ⟨l, hl, hp⟩ := List.mem_flatten.mp hp
          rw [(List.mem_replicate.mp hl).2] at hp
          exact hes p hp
        have ix : ixD (S cs) (.int 0) = some (.sh (S [c0])) := by
          rw [ecs]
          exact ix0_S (by rw [ecs] at hc; simp at hc; omega)
        have ad : addD (.lst (ds.map depD)) (.lst [.tup [.str "r", S [c0]]]) = some (.fr (.lst (es.map depD))) := by
          rw [lit_r, ees]
          simp [addD]
          omega
        have rp : repD (.lst (es.map depD)) (.int 21) = some (.fr (.lst (fs.map depD))) := by
          rw [efs]
          simp [repD, List.map_flatten]
          omega
        simp [eqD_int, peek, R_lift2g, R_own, R_var, ix, slotD, ad, rp]
        refine R_pick (b := 1000 * rest.length + 600) (h2.mono (by omega)) (by simp) (by simp) fun d w5 hd5 h5 => ?_
        simp only [List.mem_cons, List.not_mem_nil, or_false] at hd5
        obtain ⟨n, rfl, hn⟩ : ∃ n : Nat, d = .int n ∧ n ≤ 22 := by
          rcases hd5 with rfl | rfl | rfl | rfl
          · exact ⟨19, rfl, by omega⟩
          · exact ⟨20, rfl, by omega⟩
          · exact ⟨21, rfl, by omega⟩
          · exact ⟨22, rfl, by omega⟩
        have sl : slD (.lst (fs.map depD)) none (some (n : Int)) = some (.fr (.lst ((fs.take n).map depD))) := by
          have := cut_take (fs.map depD) n
          simp [slD] at this ⊢
          rw [this]
        refine ⟨n, rfl, ?_⟩
        simp only [R_lift1g]
        refine ⟨_, rfl, _, sl, ?_⟩
        simp
        exact ⟨fs.take n, ⟨fun p hp => hfs p (List.mem_of_mem_take hp)⟩, by rw [List.length_take]; omega, List.map_take.symm, h5⟩
      · simp [eqD_int, peek, R_lift2g, z]
        exact ⟨ds, hd, by omega, rfl, h2.mono (by omega)⟩
    clear h1 hd hdl ds
    rintro _ w2 ⟨ds, hd, hdl, rfl, h2⟩
    refine R_then (fun ρ w => ∃ (t : D) (s3 : Slot), Ties t ∧ TieS t s3 ∧ ρ = [some (.val (.scr ns)), some (.val .draw), some (.val (.int i)), some s3, x4, x5, x6, some (.val (S cs)), x8, x9, x10, x11] ∧ Okb (1000 * rest.length + 500) w) ?_ ?_
    · simp [R_var]
      refine R_take (b := 1000 * rest.length + 590) (h2.mono (by omega)) (by omega) (by omega) fun k w3 k0 k1 h3 => ?_
      by_cases z : k = 0
      · subst z
        simp [eqD_int, peek, R_lift2g, R_own, R_escow, R_var]
        refine R_bent (b := 1000 * rest.length + 500) hC hd.all hdl (h3.mono (by omega)) fun r w4 hb4 h4 => ?_
        rcases hb4 with ⟨L, rfl, hL, lL⟩ | ⟨v, rfl, hv, sv⟩
        · simp
          exact ⟨.lst L, .lst hL lL, _, .own, rfl, h4⟩
        · simp
          exact ⟨v, .odd hv sv, _, .val hv, rfl, h4⟩
      · simp [eqD_int, peek, R_lift2g, z]
        refine ⟨.lst (ds.map depD), .lst (fun d hd' => ?_) (by simp; omega), _, .own, rfl, h3.mono (by omega)⟩
        obtain ⟨p, hp, rfl⟩ := List.mem_map.mp hd'
        exact item_dep hC (hd.all p hp)
    clear h2 hd hdl ds
    rintro _ w3 ⟨t, s3, ht, hts, rfl, h3⟩
    refine R_then (fun ρ w => ∃ d : D, Part d ∧ Sh 8 5000 d ∧ ρ = [some (.val (.scr ns)), some (.val .draw), some (.val (.int i)), some s3, x4, x5, x6, some (.val d), x8, x9, x10, x11] ∧ Okb (1000 * rest.length) w) ?_ ?_
    · have cp := hC.cp
      have so : ∀ {l : List Nat}, CpOk l → l.length ≤ 60 → Sh 8 5000 (S l) := fun h1 h2 => (Sh_S h1 (by omega)).mono (by omega) (by omega)
      simp [R_var]
      refine R_take (b := 1000 * rest.length + 490) (h3.mono (by omega)) (by omega) (by omega) fun k w4 k0 k1 h4 => ?_
      by_cases z : k = 0
      · subst z
        have c97 : CpOk [97] := fun c hc => by rw [List.mem_singleton.mp hc]; decide
        have c114 : CpOk [114] := fun c hc => by rw [List.mem_singleton.mp hc]; decide
        have la : ("a" : Str) = st [97] := by decide +kernel
        have rv : revS (S cs) = some (.sh (S cs.reverse)) := by rw [rev_st, if_pos (by omega)]
        have aa : addD (S cs) (.str "a") = some (.sh (S (cs ++ [97]))) := by
          rw [la]
          exact addD_S (by simp; omega)
        have ar : addD (S cs) (.str "r") = some (.sh (S (cs ++ [114]))) := by
          rw [lit_r]
          exact addD_S (by simp; omega)
        simp [eqD_int, peek, R_lift2g, R_lift1g, R_var, rv, aa, ar]
        refine R_odd3 (b := 1000 * rest.length + 480) (h4.mono (by omega)) fun d w5 ho h5 => ?_
        simp
        refine R_pick (b := 1000 * rest.length) (h5.mono (by omega)) (by simp) (by simp) fun e w6 he h6 => ?_
        simp
        have q : ∀ x, x ∈ [S cs.reverse, S (cs ++ [97]), S (cs ++ [114]), .str "", .str "abcde", .str "A", d] → Part x ∧ Sh 8 5000 x := fun x hx => by
          have k1 : CpOk cs.reverse := fun c hc => cp c (List.mem_reverse.mp hc)
          have k2 : CpOk (cs ++ [97]) := fun c hc => (List.mem_append.mp hc).elim (cp c) (c97 c)
          have k3 : CpOk (cs ++ [114]) := fun c hc => (List.mem_append.mp hc).elim (cp c) (c114 c)
          simp only [List.mem_cons, List.not_mem_nil, or_false] at hx
          rcases hx with rfl | rfl | rfl | rfl | rfl | rfl | rfl
          · exact ⟨part_S k1 (by simp; omega), so k1 (by simp; omega)⟩
          · exact ⟨part_S k2 (by simp; omega), so k2 (by simp; omega)⟩
          · exact ⟨part_S k3 (by simp; omega), so k3 (by simp; omega)⟩
          · exact ⟨part_ofS "" (by decide), (Sh_ofS "" (by decide)).mono (by omega) (by omega)⟩
          · exact ⟨part_ofS "abcde" (by decide), (Sh_ofS "abcde" (by decide)).mono (by omega) (by omega)⟩
          · exact ⟨part_ofS "A" (by decide), (Sh_ofS "A" (by decide)).mono (by omega) (by omega)⟩
          · exact ⟨ho.part, ho.sh⟩
        exact ⟨e, (q e he).1, (q e he).2, rfl, h6⟩
      · simp [eqD_int, peek, R_lift2g, z]
        exact ⟨S cs, part_S cp (by omega), so cp (by omega), rfl, h4.mono (by omega)⟩
    clear h3 hC hc cs
    rintro _ w4 ⟨d, pd, sd, rfl, h4⟩
    have hz : w4.st = [] := h4.st
    obtain ⟨s, r1, r2, _⟩ := rep_Sh (sh_both sd ht.sh') (.inr ⟨_, rfl⟩)
    have sw : shw (some s3) = some (.val t) := by cases hts <;> rfl
    have o4 := nv_ol n4
    have o5 := nv_ol n5
    have o6 := nv_ol n6
    have o8 := nv_ol n8
    have o9 := nv_ol n9
    have o10 := nv_ol n10
    have o11 := nv_ol n11
    have s4 := nv_shw n4
    have s5 := nv_shw n5
    have s6 := nv_shw n6
    have s8 := nv_shw n8
    have s9 := nv_shw n9
    have s10 := nv_shw n10
    have s11 := nv_shw n11
    rcases both pd sd ht with ⟨cs, ds, rfl, rfl, hC, hd, hl2⟩ | ⟨x, v, sx, sv, due, told⟩
    · cases hts with
      | val hv => rw [lt_lst] at hv; cases hv
      | own =>
      have dk := fun w => due_ok (t := .lst (ds.map depD)) (w := w) hC hd hl2 lt_lst rfl
      have si := fun w => Scheme_eq (w := w) (d := .lst (ds.map depD)) hC hd hl2 (.inr rfl)
      have si2 := fun w => Scheme_eq (w := w) (d := .tup (ds.map depD)) hC hd hl2 (.inl rfl)
      have tk := fun w => told_good (si w)
      refine R_then (fun ρ w => w4 = w ∧ ρ = [some (.val (.scr ns)), some (.val .draw), some (.val (.int i)), some (.own (.lst (ds.map depD))), x4, x5, x6, some (.val (S cs)), some (.val .non), some (.val (.str s)), x10, x11]) ?_ ?_
      · simp
        refine R_alt1 (R_showA (al_of (by simp [ol_val, ol_lst, o4, o5, o6, o8, o9, o10, o11])) ?_)
        simp [s4, s5, s6, s8, s9, s10, s11, R_var, dk, nl, hz, offR]
        refine R_alt1 (R_showA (al_of (by simp [ol_val, ol_lst, o4, o5, o6, o8, o9, o10, o11])) ?_)
        simp [s4, s5, s6, s8, s9, s10, s11, R_var, R_liftNg, peeks, peek, r1, nl, hz, offR, parM]
      rintro _ _ ⟨rfl, rfl⟩
      refine R_then (fun ρ w => w4 = w ∧ ρ = [some (.val (.scr ns)), some (.val .draw), some (.val (.int i)), some (.own (.lst (ds.map depD))), x4, x5, x6, some (.val (S cs)), some (.val .non), some (.val (.str s)), some (.val (sch cs ds)), some (.val (sch cs ds))]) ?_ ?_
      · have ns := nl_sch cs ds
        obtain ⟨SC, eSC⟩ : ∃ SC, SC = sch cs ds := ⟨_, rfl⟩
        rw [← eSC] at ns ⊢
        simp only [← eSC] at tk
        simp
        refine R_alt1 (R_showA (al_of (by simp [ol_val, ol_lst, o4, o5, o6, o10, o11])) ?_)
        simp [s4, s5, s6, s10, s11, R_var, tk, ns, hz, offR]
        refine R_alt1 (R_showA (al_of (by simp [ol_val, ol_lst, o4, o5, o6, o10, o11])) ?_)
        simp [s4, s5, s6, s10, s11, R_var, tk, ns, hz, offR, parM]
      rintro _ _ ⟨rfl, rfl⟩
      refine R_then (fun ρ w => w4 = w ∧ ρ = [some (.val (.scr ns)), some (.val .draw), some (.val (.int i)), some (.own (.lst (ds.map depD))), x4, x5, x6, some (.val (S cs)), some (.val .non), some (.val (.str s)), some (.val (sch cs ds)), some (.val (sch cs ds))]) ?_ ?_
      · simp
        refine R_alt1 (R_showA (al_of (by simp [ol_val, ol_lst, o4, o5, o6])) ?_)
        simp [s4, s5, s6, R_var, R_liftNg, R_lift2g, peeks, peek, r1, r2, nl, hz]
      rintro _ _ ⟨rfl, rfl⟩
      refine R_then (fun ρ w => w4 = w ∧ ρ = [some (.val (.scr ns)), some (.val .draw), some (.val (.int i)), some (.own (.lst (ds.map depD))), x4, x5, x6, some (.val (S cs)), some (.val .non), some (.val (.str s)), some (.val (sch cs ds)), some (.val (sch cs ds))]) ?_ ?_
      · simp [R_var, isNonD]
      rintro _ _ ⟨rfl, rfl⟩
      refine R_then (fun ρ w => w4 = w ∧ ρ = [some (.val (.scr ns)), some (.val .draw), some (.val (.int i)), some (.own (.lst (ds.map depD))), x4, x5, x6, some (.val (S cs)), some (.val .non), some (.val (.str s)), some (.val (sch cs ds)), some (.val (sch cs ds))]) ?_ ?_
      · have qS := Scheme_eqS (w := w4) hC hd hC hd
        have e1 : @decide (EqS cs ds cs ds) (Classical.propDecidable _) = true := by simp [EqS]
        rw [e1] at qS
        have iq : List.lookup ("Scheme" : Str) icq_Scheme = some true := by decide +kernel
        have ic : List.lookup ("Scheme" : Str) ic_Scheme = some true := by decide +kernel
        simp [R_var, R_isiM, R_lift1g, peek, isiD, ic, iq, qS]
      rintro _ _ ⟨rfl, rfl⟩
      refine R_then (fun ρ w => w4 = w ∧ ρ = [some (.val (.scr ns)), some (.val .draw), some (.val (.int i)), some (.own (.lst (ds.map depD))), some (.val (sch cs ds)), x5, x6, some (.val (S cs)), some (.val .non), some (.val (.str s)), some (.val (sch cs ds)), some (.val (sch cs ds))]) ?_ ?_
      · simp [R_var, R_own, R_liftNg, peeks, peek, slotD, tupD, si2]
        have pk : pickL [1, 0] [D.tup (ds.map depD), S cs] = [S cs, D.tup (ds.map depD)] := rfl
        rw [pk, si2]
        simp
      rintro _ _ ⟨rfl, rfl⟩
      have shT : Sh 11 490000 (.tup (ds.map depD)) := by
        have := Sh_tup (n := 10) (m := 20000) (ds := ds.map depD) fun e he => by
          obtain ⟨p, hp, rfl⟩ := List.mem_map.mp he
          exact (item_dep hC (hd p hp)).sh
        refine this.mono (by omega) ?_
        rw [List.length_map]
        have := Nat.mul_le_mul_right 20000 hl2
        omega
      obtain ⟨s', q1, q2, _⟩ := rep_Sh (sh_both sd shT) (.inr ⟨_, rfl⟩)
      refine R_then (fun ρ w => w4 = w ∧ ρ = [some (.val (.scr ns)), some (.val .draw), some (.val (.int i)), some (.own (.lst (ds.map depD))), some (.val (sch cs ds)), some (.val (.str s')), x6, some (.val (S cs)), some (.val .non), some (.val (.str s)), some (.val (sch cs ds)), some (.val (sch cs ds))]) ?_ ?_
      · simp [R_var, R_own, R_liftNg, peeks, peek, slotD, tupD, q1]
      rintro _ _ ⟨rfl, rfl⟩
      refine R_then (fun ρ w => w4 = w ∧ ∃ L : List D, ρ = [some (.val (.scr ns)), some (.val .draw), some (.val (.int i)), some (.own (.lst L)), some (.val (sch cs ds)), some (.val (.str s')), x6, some (.val (S cs)), some (.val .non), some (.val (.str s)), some (.val (sch cs ds)), some (.val (sch cs ds))]) ?_ ?_
      · simp [R_own, R_isiM, R_lift1g, peek, slotD, isiD, tyB, bt_list]
        refine R_appQ (ds0 := ds.map depD) rfl ?_
        simp [AppQ, ownL]
        refine ⟨by omega, ?_⟩
        rw [R_poke3 rfl]
        exact ⟨rfl, _, rfl⟩
      rintro _ _ ⟨rfl, L, rfl⟩
      refine R_then (fun ρ w => w4 = w ∧ ∃ x6 : Option Slot, nv x6 ∧ ρ = [some (.val (.scr ns)), some (.val .draw), some (.val (.int i)), some (.own (.lst L)), some (.val (sch cs ds)), some (.val (.str s')), x6, some (.val (S cs)), some (.val .non), some (.val (.str s)), some (.val (sch cs ds)), some (.val (sch cs ds))]) ?_ ?_
      · simp [R_var, iterD]
        refine R_forL (fun left ρ w => (∀ e ∈ left, e = sch cs ds) ∧ w4 = w ∧ ∃ x6 : Option Slot, nv x6 ∧ ρ = [some (.val (.scr ns)), some (.val .draw), some (.val (.int i)), some (.own (.lst L)), some (.val (sch cs ds)), some (.val (.str s')), x6, some (.val (S cs)), some (.val .non), some (.val (.str s)), some (.val (sch cs ds)), some (.val (sch cs ds))]) ?_ (fun ρ w h => ⟨rfl, h.2⟩) _ _ _ ⟨by simp, rfl, x6, n6, rfl⟩
        rintro e left ρ _ ⟨hall, rfl, x6, n6, rfl⟩
        obtain rfl := hall e List.mem_cons_self
        have k1 := fun w => sch_cols (cs := cs) (dd := .tup (ds.map depD)) (w := w)
        have k2 := fun w => sch_deps (cs := cs) (dd := .tup (ds.map depD)) (w := w)
        simp only [R_gName, List.set_cons_succ, List.set_cons_zero]
        simp [R_var, k1, k2, R_liftNg, R_lift2g, peeks, peek, q1, q2]
        exact ⟨fun e he => hall e (List.mem_cons_of_mem _ he), .inr ⟨_, rfl⟩⟩
      rintro _ _ ⟨rfl, y6, m6, rfl⟩
      have i0 := fun w => (Scheme_eqD (ds := []) (w := w) rfl (by simp [isiD, tyB, bt_list_tuple]) rfl hC (fun p hp => by cases hp) (by simp) : I_Scheme [S cs, .ktup []] w = some (schF cs (.ktup []), w))
      have i1 := fun w => Scheme_eq (cs := cs) (ds := []) (d := .lst []) (w := w) hC (fun p hp => by cases hp) (by simp) (.inr rfl)
      have k2 := fun w => sch_deps (cs := cs) (dd := .ktup []) (w := w)
      have nn : neD (.ktup []) (.tup []) = some (.sh (.bl false)) := by rfl
      have qS := Scheme_eqSD (w := w4) (cs := cs) (cs' := cs) (ds := []) (ds' := []) (dd := .ktup []) (dd' := .tup []) rfl rfl hC (fun p hp => by cases hp) hC (fun p hp => by cases hp)
      have e1 : @decide (EqS cs [] cs []) (Classical.propDecidable _) = true := by simp [EqS]
      rw [e1] at qS
      have iq : List.lookup ("Scheme" : Str) icq_Scheme = some true := by decide +kernel
      simp [R_var, i0, i1, k2, R_lift2g, peek, nn, isiD, iq, qS]
      show Ran (D_Scheme_eq [schD cs (.ktup []), schD cs (.tup [])] w4) _
      rw [qS]
      simp only [Ran_some]
      exact ⟨trivial, (hJ _ _ _).mpr ⟨_, _, _, _, _, _, _, _, _, _, rfl, ⟨.inr ⟨_, rfl⟩, .inr ⟨_, rfl⟩, m6, .inr ⟨_, rfl⟩, .inr ⟨_, rfl⟩, .inr ⟨_, rfl⟩, .inr ⟨_, rfl⟩⟩, by omega, h4⟩⟩
    · -- refused
      refine R_then (fun ρ w => w4 = w ∧ ρ = [some (.val (.scr ns)), some (.val .draw), some (.val (.int i)), some (.val t), x4, x5, x6, some (.val d), some (.own (.lst [.str x, v])), some (.val (.str s)), x10, x11]) ?_ ?_
      · simp
        refine R_alt2 (N_showA ?_) ?_
        · simp [sw, R_var, due]
        have rest2 : R (alt (showA (bM (orN reprS reprQ) (consA (tupM (consA (varM 7) (consA (varM 3) (pureM [])))) (pureM [])))) (bM (orN reprS reprQ) (consA (tupM (consA (varM 7) (consA (varM 3) (pureM [])))) (pureM [])))) [some (.val (.scr ns)), some (.val .draw), some (.val (.int i)), some (.val t), x4, x5, x6, some (.val d), x8, x9, x10, x11] w4 fun r ρ w => r = .sh (.str s) ∧ ρ = [some (.val (.scr ns)), some (.val .draw), some (.val (.int i)), some (.val t), x4, x5, x6, some (.val d), x8, x9, x10, x11] ∧ w = w4 := by
          refine R_alt1 (R_showA (al_of (by simp [ol_val, o4, o5, o6, o8, o9, o10, o11])) ?_)
          simp [s4, s5, s6, s8, s9, s10, s11, R_var, R_liftNg, peeks, peek, r1, nl, hz]
        cases hts with
        | own =>
          simp [R_var, R_own, R_escow, due, offR]
          refine rest2.mono fun r ρ w h => ?_
          obtain ⟨rfl, rfl, rfl⟩ := h
          simp [offR, parM]
        | val hv =>
          simp [R_var, R_own, R_escow, due, offR]
          refine rest2.mono fun r ρ w h => ?_
          obtain ⟨rfl, rfl, rfl⟩ := h
          simp [offR, parM]
      rintro _ _ ⟨rfl, rfl⟩
      refine R_then (fun ρ w => w4 = w ∧ ρ = [some (.val (.scr ns)), some (.val .draw), some (.val (.int i)), some (.val t), x4, x5, x6, some (.val d), some (.own (.lst [.str x, v])), some (.val (.str s)), some (.own (.lst [.str x, v])), some (.own (.lst [.str x, v]))]) ?_ ?_
      · have one : R (alt (showA (callM D_law_told [] (consA (varM 7) (consA (varM 3) (pureM []))))) (callM D_law_told [] (consA (varM 7) (consA (varM 3) (pureM []))))) [some (.val (.scr ns)), some (.val .draw), some (.val (.int i)), some (.val t), x4, x5, x6, some (.val d), some (.own (.lst [.str x, v])), some (.val (.str s)), x10, x11] w4 fun r ρ w => r = .fr (.lst [.str x, v]) ∧ ρ = [some (.val (.scr ns)), some (.val .draw), some (.val (.int i)), some (.val t), x4, x5, x6, some (.val d), some (.own (.lst [.str x, v])), some (.val (.str s)), x10, x11] ∧ w = w4 := by
          refine R_alt2 (N_showA ?_) ?_
          · simp [R_var, told]
          · simp [R_var, told]
        simp
        refine one.mono fun r ρ w h => ?_
        obtain ⟨rfl, rfl, rfl⟩ := h
        simp [offR]
        refine one.mono fun r ρ w h => ?_
        obtain ⟨rfl, rfl, rfl⟩ := h
        simp [offR, parM]
      rintro _ _ ⟨rfl, rfl⟩
      refine R_then (fun ρ w => w4 = w ∧ ρ = [some (.val (.scr ns)), some (.val .draw), some (.val (.int i)), some (.val t), x4, x5, x6, some (.val d), some (.own (.lst [.str x, v])), some (.val (.str s)), some (.own (.lst [.str x, v])), some (.own (.lst [.str x, v]))]) ?_ ?_
      · simp
        refine R_alt1 (R_showA (al_of (by simp [ol_val, ol_lst, o4, o5, o6])) ?_)
        simp [s4, s5, s6, R_var, R_liftNg, R_lift2g, peeks, peek, r1, r2, nl, hz]
      rintro _ _ ⟨rfl, rfl⟩
      obtain ⟨s', q1, q2, _⟩ := rep_Sh (sh_two sx sv) (.inl ⟨_, rfl⟩)
      simp [R_var, R_own, R_escow, R_escval, R_isiM, isiD, tyB, bt_list, R_lift1g, R_liftNg, R_lift2g, peeks, peek, slotD, isNonD, q1, q2]
      exact (hJ _ _ _).mpr ⟨_, _, _, _, _, _, _, _, _, _, rfl, ⟨n4, n5, n6, .inr ⟨_, rfl⟩, .inr ⟨_, rfl⟩, .inr ⟨_, rfl⟩, .inr ⟨_, rfl⟩⟩, by omega, h4⟩
  · intro ρ w' hj
    obtain ⟨x2, x3, x4, x5, x6, x7, x8, x9, x10, x11, rfl, n, hl, hb⟩ := (hJ _ _ _).mp hj
    simp
end KL

end sec_K03
section sec_End
open PySem PySem.W PyProof.Rows
set_option maxRecDepth 100000 in
set_option maxHeartbeats 0 in
theorem PySem.Challenge.cw_meanways_k03_schemes_made_holds : PySem.Challenge.rw_meanways_k03_schemes_made.Holds := by
  w_on; o_law; k_head; (case hw => w_witness2)
  k_fill
  refine LG.walkS (l := PySem.Challenge.rw_meanways_k03_schemes_made) (n := 63) (k := 9) (x := "_law_script") rfl (by decide) rfl ⟨rfl, by decide, by decide⟩ (fun w h Y => by first | exact PySem.W.kIn_of Y | exact PySem.W.km_in_of Y) (by kernel_rfl) ?F
  case F =>
    intro w mg fa h Y KX G hmg
    refine' KL.asm KX G hmg ?aC_Scheme ?aC_MeanError ?aC_BadColumns ?aC_BadDependence ?aC_TooMany ?lk_BadColumns ?ki_rv_BadColumns ?xsa_BadColumns ?xex_BadColumns ?xty_BadColumns ?xkc_BadColumns ?xga_BadColumns ?xgt_BadColumns ?xhd_BadColumns ?xha_BadColumns ?xmr_BadColumns ?xno_BadColumns ?a_BadColumns_init ?xti_BadColumns_init ?l_BadColumns_init ?c_BadColumns_init ?k_BadColumns_init ?lk_BadDependence ?ki_rv_BadDependence ?xsa_BadDependence ?xex_BadDependence ?xty_BadDependence ?xkc_BadDependence ?xga_BadDependence ?xgt_BadDependence ?xhd_BadDependence ?xha_BadDependence ?xmr_BadDependence ?xno_BadDependence ?a_BadDependence_init ?xti_BadDependence_init ?l_BadDependence_init ?c_BadDependence_init ?k_BadDependence_init ?kk_em_MeanError_BadColumns ?kk_em_MeanError_BadDependence ?kk_xi_BadColumns_BadColumns ?kk_xi_BadColumns_BadDependence ?kk_xi_BadDependence_BadColumns ?kk_xi_BadDependence_BadDependence ?kk_xi_TooMany_BadColumns ?kk_xi_TooMany_BadDependence ?kk_xi_ValueError_BadColumns ?kk_xi_ValueError_BadDependence ?pg_Scheme ?hd_Scheme ?po_Scheme ?sa_Scheme ?mk_Scheme ?kc_Scheme ?ha_Scheme ?mr_Scheme ?na_Scheme_own_columns ?na_Scheme_own_dependences ?ne_Scheme ?so_Scheme ?nf_Scheme_NoneType ?nf_Scheme_bool ?nf_Scheme_int ?nf_Scheme_str ?nf_Scheme_tuple ?nf_Scheme_list ?nf_Scheme_dict ?nfi_Scheme_Scheme ?hn0 ?ht0 ?kk_list_Scheme ?ki_Scheme_NoneType ?ki_Scheme_bool ?ki_Scheme_int ?ki_Scheme_str ?ki_Scheme_tuple ?ki_Scheme_list ?ki_Scheme_dict ?kk_Scheme_Scheme ?kk_list_tuple_Scheme ?kk_tuple_Scheme ?kk_str_Scheme ?ki_BadDependence_NoneType ?ki_BadDependence_bool ?ki_BadDependence_int ?ki_BadDependence_str ?ki_BadDependence_tuple ?ki_BadDependence_list ?ki_BadDependence_dict ?kk_BadDependence_Scheme ?ki_BadColumns_NoneType ?ki_BadColumns_bool ?ki_BadColumns_int ?ki_BadColumns_str ?ki_BadColumns_tuple ?ki_BadColumns_list ?ki_BadColumns_dict ?kk_BadColumns_Scheme ?kk_ValueError_Scheme ?ki_TooMany_NoneType ?ki_TooMany_bool ?ki_TooMany_int ?ki_TooMany_str ?ki_TooMany_tuple ?ki_TooMany_list ?ki_TooMany_dict ?kk_TooMany_Scheme ?z_ValueError ?z_abs ?z_all ?z_enumerate ?z_int ?z_isinstance ?z_len ?z_list ?z_min ?z_range ?z_repr ?z_set ?z_sorted ?z_str ?z_tuple ?g_ALL_COLUMNS ?g_MOST_DEPENDENCES ?g_ROW ?a_law_begun ?l_law_begun ?c_law_begun ?k_law_begun ?a_rises ?l_rises ?c_rises ?k_rises ?a_is_set ?l_is_set ?c_is_set ?k_is_set ?a_is_dependence ?l_is_dependence ?c_is_dependence ?k_is_dependence ?a_need_dependences ?l_need_dependences ?c_need_dependences ?k_need_dependences ?a_is_columns ?l_is_columns ?c_is_columns ?k_is_columns ?a_need_columns ?l_need_columns ?c_need_columns ?k_need_columns ?a_Scheme_init ?i_Scheme_init ?l_Scheme_init ?c_Scheme_init ?k_Scheme_init ?lT_Scheme_init ?dT_Scheme_init ?lKE0_Scheme_init ?cKE0_Scheme_init ?dKE0_Scheme_init ?a_sets_of ?l_sets_of ?c_sets_of ?k_sets_of ?a_within ?l_within ?c_within ?k_within ?a_joined ?l_joined ?c_joined ?k_joined ?a_closure_of ?l_closure_of ?c_closure_of ?k_closure_of ?a_need_set ?l_need_set ?c_need_set ?k_need_set ?a_Scheme_closure ?i_Scheme_closure ?l_Scheme_closure ?c_Scheme_closure ?k_Scheme_closure ?a_Scheme_closed_sets ?i_Scheme_closed_sets ?l_Scheme_closed_sets ?c_Scheme_closed_sets ?k_Scheme_closed_sets ?a_Scheme_eq ?i_Scheme_eq ?l_Scheme_eq ?c_Scheme_eq ?k_Scheme_eq ?a_Scheme_dependences ?pg_Scheme_dependences ?pt_Scheme_dependences ?pr_Scheme_dependences ?l_Scheme_dependences ?c_Scheme_dependences ?k_Scheme_dependences ?a_Scheme_columns ?pg_Scheme_columns ?pt_Scheme_columns ?pr_Scheme_columns ?l_Scheme_columns ?c_Scheme_columns ?k_Scheme_columns ?a_law_told ?l_law_told ?c_law_told ?k_law_told ?a_law_is_rising ?l_law_is_rising ?c_law_is_rising ?k_law_is_rising ?a_law_is_tie ?l_law_is_tie ?c_law_is_tie ?k_law_is_tie ?a_law_due ?l_law_due ?c_law_due ?k_law_due ?a_law_mixed ?l_law_mixed ?c_law_mixed ?k_law_mixed ?a_law_take ?l_law_take ?c_law_take ?k_law_take ?a_law_pick ?l_law_pick ?c_law_pick ?k_law_pick ?a_law_odd ?l_law_odd ?c_law_odd ?k_law_odd ?a_law_bent ?l_law_bent ?c_law_bent ?k_law_bent ?a_law_letters ?l_law_letters ?c_law_letters ?k_law_letters ?a_law_columns ?l_law_columns ?c_law_columns ?k_law_columns ?a_law_drawn ?l_law_drawn ?c_law_drawn ?k_law_drawn ?a_law ?l_law ?c_law ?k_law (PySem.W.km_tabs_of Y) ?mT_sets_of ?ch_sets_of ?nT_sets_of KL.law_true
    (case aC_Scheme => k_is)
    (case aC_MeanError => k_is)
    (case aC_BadColumns => k_is)
    (case aC_BadDependence => k_is)
    (case aC_TooMany => k_is)
    (case lk_BadColumns => k_is)
    (case ki_rv_BadColumns => kernel_rfl)
    (case xsa_BadColumns => k_is)
    (case xex_BadColumns => k_is)
    (case xty_BadColumns => k_is)
    (case xkc_BadColumns => k_is)
    (case xga_BadColumns => k_is)
    (case xgt_BadColumns => k_is)
    (case xhd_BadColumns => k_is)
    (case xha_BadColumns => k_is)
    (case xmr_BadColumns => k_is)
    (case xno_BadColumns => k_is)
    (case a_BadColumns_init => k_is)
    (case xti_BadColumns_init => k_is)
    (case l_BadColumns_init => k_is)
    (case c_BadColumns_init => k_is)
    (case k_BadColumns_init => k_is)
    (case lk_BadDependence => k_is)
    (case ki_rv_BadDependence => kernel_rfl)
    (case xsa_BadDependence => k_is)
    (case xex_BadDependence => k_is)
    (case xty_BadDependence => k_is)
    (case xkc_BadDependence => k_is)
    (case xga_BadDependence => k_is)
    (case xgt_BadDependence => k_is)
    (case xhd_BadDependence => k_is)
    (case xha_BadDependence => k_is)
    (case xmr_BadDependence => k_is)
    (case xno_BadDependence => k_is)
    (case a_BadDependence_init => k_is)
    (case xti_BadDependence_init => k_is)
    (case l_BadDependence_init => k_is)
    (case c_BadDependence_init => k_is)
    (case k_BadDependence_init => k_is)
    (case kk_em_MeanError_BadColumns => kernel_rfl)
    (case kk_em_MeanError_BadDependence => kernel_rfl)
    (case kk_xi_BadColumns_BadColumns => kernel_rfl)
    (case kk_xi_BadColumns_BadDependence => kernel_rfl)
    (case kk_xi_BadDependence_BadColumns => kernel_rfl)
    (case kk_xi_BadDependence_BadDependence => kernel_rfl)
    (case kk_xi_TooMany_BadColumns => kernel_rfl)
    (case kk_xi_TooMany_BadDependence => kernel_rfl)
    (case kk_xi_ValueError_BadColumns => kernel_rfl)
    (case kk_xi_ValueError_BadDependence => kernel_rfl)
    (case pg_Scheme => k_is)
    (case hd_Scheme => k_is)
    (case po_Scheme => k_is)
    (case sa_Scheme => k_is)
    (case mk_Scheme => k_is)
    (case kc_Scheme => k_is)
    (case ha_Scheme => k_is)
    (case mr_Scheme => k_is)
    (case na_Scheme_own_columns => k_is)
    (case na_Scheme_own_dependences => k_is)
    (case ne_Scheme => k_is)
    (case so_Scheme => k_is)
    (case nf_Scheme_NoneType => k_is)
    (case nf_Scheme_bool => k_is)
    (case nf_Scheme_int => k_is)
    (case nf_Scheme_str => k_is)
    (case nf_Scheme_tuple => k_is)
    (case nf_Scheme_list => k_is)
    (case nf_Scheme_dict => k_is)
    (case nfi_Scheme_Scheme => k_is)
    (case hn0 => k_is)
    (case ht0 => k_is)
    (case kk_list_Scheme => kernel_rfl)
    (case ki_Scheme_NoneType => kernel_rfl)
    (case ki_Scheme_bool => kernel_rfl)
    (case ki_Scheme_int => kernel_rfl)
    (case ki_Scheme_str => kernel_rfl)
    (case ki_Scheme_tuple => kernel_rfl)
    (case ki_Scheme_list => kernel_rfl)
    (case ki_Scheme_dict => kernel_rfl)
    (case kk_Scheme_Scheme => kernel_rfl)
    (case kk_list_tuple_Scheme => kernel_rfl)
    (case kk_tuple_Scheme => kernel_rfl)
    (case kk_str_Scheme => kernel_rfl)
    (case ki_BadDependence_NoneType => kernel_rfl)
    (case ki_BadDependence_bool => kernel_rfl)
    (case ki_BadDependence_int => kernel_rfl)
    (case ki_BadDependence_str => kernel_rfl)
    (case ki_BadDependence_tuple => kernel_rfl)
    (case ki_BadDependence_list => kernel_rfl)
    (case ki_BadDependence_dict => kernel_rfl)
    (case kk_BadDependence_Scheme => kernel_rfl)
    (case ki_BadColumns_NoneType => kernel_rfl)
    (case ki_BadColumns_bool => kernel_rfl)
    (case ki_BadColumns_int => kernel_rfl)
    (case ki_BadColumns_str => kernel_rfl)
    (case ki_BadColumns_tuple => kernel_rfl)
    (case ki_BadColumns_list => kernel_rfl)
    (case ki_BadColumns_dict => kernel_rfl)
    (case kk_BadColumns_Scheme => kernel_rfl)
    (case kk_ValueError_Scheme => kernel_rfl)
    (case ki_TooMany_NoneType => kernel_rfl)
    (case ki_TooMany_bool => kernel_rfl)
    (case ki_TooMany_int => kernel_rfl)
    (case ki_TooMany_str => kernel_rfl)
    (case ki_TooMany_tuple => kernel_rfl)
    (case ki_TooMany_list => kernel_rfl)
    (case ki_TooMany_dict => kernel_rfl)
    (case kk_TooMany_Scheme => kernel_rfl)
    (case z_ValueError => k_is)
    (case z_abs => k_is)
    (case z_all => k_is)
    (case z_enumerate => k_is)
    (case z_int => k_is)
    (case z_isinstance => k_is)
    (case z_len => k_is)
    (case z_list => k_is)
    (case z_min => k_is)
    (case z_range => k_is)
    (case z_repr => k_is)
    (case z_set => k_is)
    (case z_sorted => k_is)
    (case z_str => k_is)
    (case z_tuple => k_is)
    (case g_ALL_COLUMNS => k_is)
    (case g_MOST_DEPENDENCES => k_is)
    (case g_ROW => k_is)
    (case a_law_begun => k_is)
    (case l_law_begun => k_is)
    (case c_law_begun => k_is)
    (case k_law_begun => k_is)
    (case a_rises => k_is)
    (case l_rises => k_is)
    (case c_rises => k_is)
    (case k_rises => k_is)
    (case a_is_set => k_is)
    (case l_is_set => k_is)
    (case c_is_set => k_is)
    (case k_is_set => k_is)
    (case a_is_dependence => k_is)
    (case l_is_dependence => k_is)
    (case c_is_dependence => k_is)
    (case k_is_dependence => k_is)
    (case a_need_dependences => k_is)
    (case l_need_dependences => k_is)
    (case c_need_dependences => k_is)
    (case k_need_dependences => k_is)
    (case a_is_columns => k_is)
    (case l_is_columns => k_is)
    (case c_is_columns => k_is)
    (case k_is_columns => k_is)
    (case a_need_columns => k_is)
    (case l_need_columns => k_is)
    (case c_need_columns => k_is)
    (case k_need_columns => k_is)
    (case a_Scheme_init => k_is)
    (case i_Scheme_init => k_is)
    (case l_Scheme_init => k_is)
    (case c_Scheme_init => k_is)
    (case k_Scheme_init => k_is)
    (case lT_Scheme_init => k_is)
    (case dT_Scheme_init => exact rfl)
    (case lKE0_Scheme_init => k_is)
    (case cKE0_Scheme_init => exact rfl)
    (case dKE0_Scheme_init => exact rfl)
    (case a_sets_of => k_is)
    (case l_sets_of => k_is)
    (case c_sets_of => k_is)
    (case k_sets_of => k_is)
    (case a_within => k_is)
    (case l_within => k_is)
    (case c_within => k_is)
    (case k_within => k_is)
    (case a_joined => k_is)
    (case l_joined => k_is)
    (case c_joined => k_is)
    (case k_joined => k_is)
    (case a_closure_of => k_is)
    (case l_closure_of => k_is)
    (case c_closure_of => k_is)
    (case k_closure_of => k_is)
    (case a_need_set => k_is)
    (case l_need_set => k_is)
    (case c_need_set => k_is)
    (case k_need_set => k_is)
    (case a_Scheme_closure => k_is)
    (case i_Scheme_closure => k_is)
    (case l_Scheme_closure => k_is)
    (case c_Scheme_closure => k_is)
    (case k_Scheme_closure => k_is)
    (case a_Scheme_closed_sets => k_is)
    (case i_Scheme_closed_sets => k_is)
    (case l_Scheme_closed_sets => k_is)
    (case c_Scheme_closed_sets => k_is)
    (case k_Scheme_closed_sets => k_is)
    (case a_Scheme_eq => k_is)
    (case i_Scheme_eq => k_is)
    (case l_Scheme_eq => k_is)
    (case c_Scheme_eq => k_is)
    (case k_Scheme_eq => k_is)
    (case a_Scheme_dependences => k_is)
    (case pg_Scheme_dependences => k_is)
    (case pt_Scheme_dependences => k_is)
    (case pr_Scheme_dependences => k_is)
    (case l_Scheme_dependences => k_is)
    (case c_Scheme_dependences => k_is)
    (case k_Scheme_dependences => k_is)
    (case a_Scheme_columns => k_is)
    (case pg_Scheme_columns => k_is)
    (case pt_Scheme_columns => k_is)
    (case pr_Scheme_columns => k_is)
    (case l_Scheme_columns => k_is)
    (case c_Scheme_columns => k_is)
    (case k_Scheme_columns => k_is)
    (case a_law_told => k_is)
    (case l_law_told => k_is)
    (case c_law_told => k_is)
    (case k_law_told => k_is)
    (case a_law_is_rising => k_is)
    (case l_law_is_rising => k_is)
    (case c_law_is_rising => k_is)
    (case k_law_is_rising => k_is)
    (case a_law_is_tie => k_is)
    (case l_law_is_tie => k_is)
    (case c_law_is_tie => k_is)
    (case k_law_is_tie => k_is)
    (case a_law_due => k_is)
    (case l_law_due => k_is)
    (case c_law_due => k_is)
    (case k_law_due => k_is)
    (case a_law_mixed => k_is)
    (case l_law_mixed => k_is)
    (case c_law_mixed => k_is)
    (case k_law_mixed => k_is)
    (case a_law_take => k_is)
    (case l_law_take => k_is)
    (case c_law_take => k_is)
    (case k_law_take => k_is)
    (case a_law_pick => k_is)
    (case l_law_pick => k_is)
    (case c_law_pick => k_is)
    (case k_law_pick => k_is)
    (case a_law_odd => k_is)
    (case l_law_odd => k_is)
    (case c_law_odd => k_is)
    (case k_law_odd => k_is)
    (case a_law_bent => k_is)
    (case l_law_bent => k_is)
    (case c_law_bent => k_is)
    (case k_law_bent => k_is)
    (case a_law_letters => k_is)
    (case l_law_letters => k_is)
    (case c_law_letters => k_is)
    (case k_law_letters => k_is)
    (case a_law_columns => k_is)
    (case l_law_columns => k_is)
    (case c_law_columns => k_is)
    (case k_law_columns => k_is)
    (case a_law_drawn => k_is)
    (case l_law_drawn => k_is)
    (case c_law_drawn => k_is)
    (case k_law_drawn => k_is)
    (case a_law => k_is)
    (case l_law => k_is)
    (case c_law => k_is)
    (case k_law => k_is)
    (case mT_sets_of => exact rfl)
    (case ch_sets_of => kernel_rfl)
    (case nT_sets_of => kernel_rfl)

end sec_End
