import PyProof.Rows.All
import HandS.ForMost
import HandS.ForExc
import HandS.CallSlots
import HandS.Lambda
import HandS.DictComp
import HandS.Flow
import HandS.Style
import HandS.Wide
import HandS.StrMore
import HandS.SortOrd
import HandS.Conv
import HandS.TupAny
import HandS.TupLe
import HandS.WordsDict
import HandS.TupLen
import HandS.Replace
import HandS.RaiseMore
import HandS.Comp
import PyProof.GenComp
import HandS.GenList
import HandS.AnyAll
import PyProof.CollectWalk
import PyProof.TupleOfGen
import HandS.SortInts
import PyProof.Rows.SortShellAny
import PyProof.Rows.StrMeet
import HandS.Small
import HandS.Dict
import HandS.HeadHook3
import HandS.HeadHook4
import HandS.HeadEnd
import HandS.HeadWalk
import HandS.Head2
import HandS.ExcOwn
import HandS.Codes
import PySem.Challenge.RW_bankstack_k03_numbers_that_check
set_option Elab.async false
set_option linter.all false
set_option maxRecDepth 100000
set_option maxHeartbeats 0
namespace Bk
open L2 PyProof.Rows PySem.Spec PySem

/-! ## Deep values, a store of what changes -/
inductive D where
  | non
  | bl (b : Bool)
  | int (i : Int)
  | str (x : Str)
  | tup (ds : List D)
  | lst (ds : List D)
  | dK (kvs : List (Key × D))
  | dT (kvs : List (List Key × D))
  | ref (l : Nat)
  | clo (sc : Scope) (e : Expr)
  | scr (ns : List Int)
  | kd (i : Nat)
  | ktup (ds : List D)
  deriving Inhabited

/-- an object that may change; a dict that is walked over is held (lk) -/
inductive SObj where
  | lst (ds : List D)
  | dK (lk : Bool) (kvs : List (Key × D))
  | dT (lk : Bool) (kvs : List (List Key × D))
  | ins (c : Nat) (fs : List (Str × D))
  deriving Inhabited
abbrev Store := List SObj
abbrev Lc := List (Option D)

/-- an outcome: a value, an exception (the number of its class), or no word -/
inductive R (α : Type) where
  | ok (a : α) (st : Store)
  | exn (c : Nat) (st : Store)
  | stuck
def R.bind {α β : Type} (r : R α) (f : α → Store → R β) : R β := match r with
  | .ok a st => f a st
  | .exn c st => .exn c st
  | .stuck => .stuck
abbrev SE := Lc → Store → R D
abbrev ST := Lc → Store → R Bool
abbrev SA := Lc → Store → R (List D)
/-- what a statement ends in -/
inductive RS where
  | nx (ρ : Lc) (st : Store)
  | rt (d : D) (st : Store)
  | bk (ρ : Lc) (st : Store)
  | ct (ρ : Lc) (st : Store)
  | exn (c : Nat) (st : Store)
  | stuck
abbrev SS := Lc → Store → RS

/-! ## How values stand in the tracked heap -/
/-- the kinds that stay just as they are; a dict may come to be held -/
def Fx : HO → Prop
  | .tbl _ => False
  | .dK _ => False
  | .dT _ => False
  | _ => True
def Dic : HO → Prop
  | .dK _ => True
  | .dT _ => True
  | _ => False
/-- the fixed things: what is written, the tables of code, the classes of errors and of instances, what a closure is -/
structure Gl0 where
  K : PySem.W.Frag
  tabs : List (Addr × Str)
  isLam : Pos → Bool
  exc : Nat → Addr
  cls : Nat → Addr
  CL : Scope → Expr → Addr → Addr → Heap → Prop
  lq : Str
  kdA : Nat → Addr
  kdC : Nat → List (Str × Int)
  hid : List Addr := []
/-- not among what changes, nor among what is still being made -/
def Fz (G : Gl0) (μ : List Addr) (a : Addr) : Prop := a ∉ μ ∧ a ∉ G.hid

/-- a list of the written part -/
def KLst (K : PySem.W.Frag) (a : Addr) (xs : List V) : Prop := ∃ (o : Obj) (its : Array Value) (n : Nat), K.lookup a = some o ∧ o.cls = .type "list" ∧ o.dict = none ∧ o.data = .seq its n ∧ its.size ≤ sizeLine ∧ Vals xs its.toList
def KTup (K : PySem.W.Frag) (a : Addr) (xs : List V) : Prop := ∃ (o : Obj) (its : Array Value) (n : Nat), K.lookup a = some o ∧ o.cls = .type "tuple" ∧ o.data = .seq its n ∧ its.size ≤ sizeLine ∧ Vals xs its.toList

mutual
inductive Rep (G : Gl0) (μ : List Addr) (H : Hp) : D → V → Prop
  | non : Rep G μ H .non .non
  | bl (b : Bool) : Rep G μ H (.bl b) (.bl b)
  | int (i : Int) : Rep G μ H (.int i) (.int i)
  | str (x : Str) : Rep G μ H (.str x) (.str x)
  | tup {a : Addr} {ds : List D} {vs : List V} : Fz G μ a → H a = some (.tup vs) → RepL G μ H ds vs → Rep G μ H (.tup ds) (.ref a)
  | ktup {a : Addr} {ds : List D} {vs : List V} : KTup G.K a vs → RepL G μ H ds vs → Rep G μ H (.ktup ds) (.ref a)
  | lst {a : Addr} {ds : List D} {vs : List V} : Fz G μ a → H a = some (.lst vs) → RepL G μ H ds vs → Rep G μ H (.lst ds) (.ref a)
  | dK {a : Addr} {kvs : List (Key × D)} {vs : List (Key × V)} : Fz G μ a → Rd H a (.dK vs) → RepP G μ H kvs vs → Rep G μ H (.dK kvs) (.ref a)
  | dT {a : Addr} {kvs : List (List Key × D)} {vs : List (List Key × V)} : Fz G μ a → Rd H a (.dT vs) → RepQ G μ H kvs vs → Rep G μ H (.dT kvs) (.ref a)
  | ref {l : Nat} {a : Addr} : μ[l]? = some a → Rep G μ H (.ref l) (.ref a)
  | clo {sc : Scope} {e : Expr} {a c : Addr} : Fz G μ a → H a = some (.ext (G.CL sc e a c)) → Fz G μ c → H c = some (LamX.CodeO c G.lq) → Rep G μ H (.clo sc e) (.ref a)
  | scr {ns : List Int} {a : Addr} : Fz G μ a → Rd H a (.lst (ns.map V.int)) → Rep G μ H (.scr ns) (.ref a)
  | scrK {ns : List Int} {a : Addr} : KLst G.K a (ns.map V.int) → Rep G μ H (.scr ns) (.ref a)
  | kd (i : Nat) : Rep G μ H (.kd i) (.ref (G.kdA i))
inductive RepL (G : Gl0) (μ : List Addr) (H : Hp) : List D → List V → Prop
  | nil : RepL G μ H [] []
  | cons {d : D} {v : V} {ds : List D} {vs : List V} : Rep G μ H d v → RepL G μ H ds vs → RepL G μ H (d :: ds) (v :: vs)
inductive RepP (G : Gl0) (μ : List Addr) (H : Hp) : List (Key × D) → List (Key × V) → Prop
  | nil : RepP G μ H [] []
  | cons {k : Key} {d : D} {v : V} {ds : List (Key × D)} {vs : List (Key × V)} : Rep G μ H d v → RepP G μ H ds vs → RepP G μ H ((k, d) :: ds) ((k, v) :: vs)
inductive RepQ (G : Gl0) (μ : List Addr) (H : Hp) : List (List Key × D) → List (List Key × V) → Prop
  | nil : RepQ G μ H [] []
  | cons {k : List Key} {d : D} {v : V} {ds : List (List Key × D)} {vs : List (List Key × V)} : Rep G μ H d v → RepQ G μ H ds vs → RepQ G μ H ((k, d) :: ds) ((k, v) :: vs)
end

/-- from (μ, H) on: new places for what changes, all that does not change stands -/
structure Step (μ : List Addr) (H : Hp) (μ' : List Addr) (H' : Hp) : Prop where
  pre : ∃ ν, μ' = μ ++ ν ∧ ∀ a ∈ ν, H a = none
  keep : ∀ a o, a ∉ μ → H a = some o → Fx o → H' a = some o
  keepD : ∀ a o, a ∉ μ → H a = some o → Dic o → Rd H' a o
  there : ∀ a o, H a = some o → ∃ o', H' a = some o'
  lock : ∀ a o u, H a = some (.frz o u) → H' a = some (.frz o u)

theorem Step.refl (μ : List Addr) (H : Hp) : Step μ H μ H := ⟨⟨[], by simp, by simp⟩, fun _ _ _ h _ => h, fun _ _ _ h _ => .inl h, fun _ o h => ⟨o, h⟩, fun _ _ _ h => h⟩
theorem Step.notin {μ μ' : List Addr} {H H' : Hp} (s : Step μ H μ' H') {a : Addr} {o : HO} (h : a ∉ μ) (e : H a = some o) : a ∉ μ' := by
  obtain ⟨ν, rfl, hn⟩ := s.pre
  intro hm
  rcases List.mem_append.mp hm with hm | hm
  · exact h hm
  · have := hn a hm
    rw [e] at this
    cases this
theorem Step.rd {μ μ' : List Addr} {H H' : Hp} (s : Step μ H μ' H') {a : Addr} {u : HO} (h : a ∉ μ) (hu : ∀ ps, u ≠ .tbl ps) (r : Rd H a u) : a ∉ μ' ∧ Rd H' a u := by
  rcases r with e | ⟨o, e⟩
  · refine ⟨s.notin h e, ?_⟩
    cases u with
    | tbl ps => exact absurd rfl (hu ps)
    | dK kvs => exact s.keepD a _ h e trivial
    | dT kvs => exact s.keepD a _ h e trivial
    | _ => exact .inl (s.keep a _ h e trivial)
  · exact ⟨s.notin h e, .inr ⟨o, s.keep a _ h e trivial⟩⟩
theorem Step.at {μ μ' : List Addr} {H H' : Hp} (s : Step μ H μ' H') {l : Nat} {a : Addr} (e : μ[l]? = some a) : μ'[l]? = some a := by
  obtain ⟨ν, rfl, _⟩ := s.pre
  rw [List.getElem?_append_left]
  · exact e
  · exact (List.getElem?_eq_some_iff.mp e).1
theorem Step.trans {μ μ1 μ2 : List Addr} {H H1 H2 : Hp} (s : Step μ H μ1 H1) (t : Step μ1 H1 μ2 H2) : Step μ H μ2 H2 := by
  obtain ⟨ν1, e1, n1⟩ := s.pre
  obtain ⟨ν2, e2, n2⟩ := t.pre
  refine ⟨⟨ν1 ++ ν2, by rw [e2, e1, List.append_assoc], fun a ha => ?_⟩, fun a o h e hu => ?_, fun a o h e hd => ?_, fun a o e => ?_, fun a o u e => t.lock a o u (s.lock a o u e)⟩
  · rcases List.mem_append.mp ha with ha | ha
    · exact n1 a ha
    · cases q : H a with
      | none => rfl
      | some o =>
        obtain ⟨o', e'⟩ := s.there a o q
        have z := n2 a ha
        rw [e'] at z
        cases z
  · exact t.keep a o (s.notin h e) (s.keep a o h e hu) hu
  · exact (t.rd (s.notin h e) (fun ps z => by subst z; exact hd) (s.keepD a o h e hd)).2
  · obtain ⟨o1, h1⟩ := s.there a o e
    exact t.there a o1 h1

section
variable {G : Gl0} {μ μ' : List Addr} {H H' : Hp}
mutual
theorem Rep.step (s : Step μ H μ' H') : ∀ (d : D) (v : V), Rep G μ H d v → Rep G μ' H' d v
  | .non, _, h => by cases h; exact .non
  | .bl b, _, h => by cases h; exact .bl b
  | .int i, _, h => by cases h; exact .int i
  | .str x, _, h => by cases h; exact .str x
  | .tup ds, _, h => by
    cases h with
    | tup h0 h1 h2 => exact .tup ⟨s.notin h0.1 h1, h0.2⟩ (s.keep _ _ h0.1 h1 trivial) (RepL.step s ds _ h2)
  | .ktup ds, _, h => by
    cases h with
    | ktup h1 h2 => exact .ktup h1 (RepL.step s ds _ h2)
  | .lst ds, _, h => by
    cases h with
    | lst h0 h1 h2 => exact .lst ⟨s.notin h0.1 h1, h0.2⟩ (s.keep _ _ h0.1 h1 trivial) (RepL.step s ds _ h2)
  | .dK kvs, _, h => by
    cases h with
    | dK h0 h1 h2 =>
      have q := s.rd h0.1 (fun _ z => by cases z) h1
      exact .dK ⟨q.1, h0.2⟩ q.2 (RepP.step s kvs _ h2)
  | .dT kvs, _, h => by
    cases h with
    | dT h0 h1 h2 =>
      have q := s.rd h0.1 (fun _ z => by cases z) h1
      exact .dT ⟨q.1, h0.2⟩ q.2 (RepQ.step s kvs _ h2)
  | .ref l, _, h => by
    cases h with
    | ref e => exact .ref (s.at e)
  | .clo _ _, _, h => by
    cases h with
    | clo h0 e h1 e1 => exact .clo ⟨s.notin h0.1 e, h0.2⟩ (s.keep _ _ h0.1 e trivial) ⟨s.notin h1.1 e1, h1.2⟩ (s.keep _ _ h1.1 e1 trivial)
  | .scr ns, _, h => by
    cases h with
    | scr h0 h1 =>
      have q := s.rd h0.1 (fun _ z => by cases z) h1
      exact .scr ⟨q.1, h0.2⟩ q.2
    | scrK h => exact .scrK h
  | .kd i, _, h => by cases h; exact .kd i
theorem RepL.step (s : Step μ H μ' H') : ∀ (ds : List D) (vs : List V), RepL G μ H ds vs → RepL G μ' H' ds vs
  | [], _, h => by cases h; exact .nil
  | d :: ds, _, h => by
    cases h with
    | cons h1 h2 => exact .cons (Rep.step s d _ h1) (RepL.step s ds _ h2)
theorem RepP.step (s : Step μ H μ' H') : ∀ (ds : List (Key × D)) (vs : List (Key × V)), RepP G μ H ds vs → RepP G μ' H' ds vs
  | [], _, h => by cases h; exact .nil
  | (k, d) :: ds, _, h => by
    cases h with
    | cons h1 h2 => exact .cons (Rep.step s d _ h1) (RepP.step s ds _ h2)
theorem RepQ.step (s : Step μ H μ' H') : ∀ (ds : List (List Key × D)) (vs : List (List Key × V)), RepQ G μ H ds vs → RepQ G μ' H' ds vs
  | [], _, h => by cases h; exact .nil
  | (k, d) :: ds, _, h => by
    cases h with
    | cons h1 h2 => exact .cons (Rep.step s d _ h1) (RepQ.step s ds _ h2)
end
end

/-- a kind that may change -/
def Liv : HO → Prop
  | .lst _ => True
  | .dK _ => True
  | .dT _ => True
  | .frz _ _ => True
  | .ins _ _ _ => True
  | _ => False
/-- what stands at a place of the store -/
def ObjR (G : Gl0) (μ : List Addr) (H : Hp) (a : Addr) : SObj → Prop
  | .lst ds => ∃ vs, H a = some (.lst vs) ∧ RepL G μ H ds vs
  | .dK lk kvs => ∃ vs, (lk = false → H a = some (.dK vs)) ∧ (lk = true → ∃ o, H a = some (.frz o (.dK vs))) ∧ RepP G μ H kvs vs
  | .dT lk kvs => ∃ vs, (lk = false → H a = some (.dT vs)) ∧ (lk = true → ∃ o, H a = some (.frz o (.dT vs))) ∧ RepQ G μ H kvs vs
  | .ins c fs => ∃ dx vs, H a = some (.ins (G.cls c) dx vs) ∧ fs.map (·.1) = vs.map (·.1) ∧ RepL G μ H (fs.map (·.2)) (vs.map (·.2))
theorem ObjR.some {G : Gl0} {μ : List Addr} {H : Hp} {a : Addr} {o : SObj} (h : ObjR G μ H a o) : ∃ u, H a = some u ∧ Liv u := by
  cases o with
  | lst ds => obtain ⟨vs, e, _⟩ := h; exact ⟨_, e, trivial⟩
  | dK lk kvs =>
    obtain ⟨vs, e1, e2, _⟩ := h
    cases lk with
    | false => exact ⟨_, e1 rfl, trivial⟩
    | true => obtain ⟨o, e⟩ := e2 rfl; exact ⟨_, e, trivial⟩
  | dT lk kvs =>
    obtain ⟨vs, e1, e2, _⟩ := h
    cases lk with
    | false => exact ⟨_, e1 rfl, trivial⟩
    | true => obtain ⟨o, e⟩ := e2 rfl; exact ⟨_, e, trivial⟩
  | ins c fs => obtain ⟨dx, vs, e, _⟩ := h; exact ⟨_, e, trivial⟩
/-- its content is carried over a step that leaves its own place -/
theorem ObjR.step {G : Gl0} {μ μ' : List Addr} {H H' : Hp} {a : Addr} {o : SObj} (s : Step μ H μ' H') (e : H' a = H a) (h : ObjR G μ H a o) : ObjR G μ' H' a o := by
  cases o with
  | lst ds => obtain ⟨vs, e1, r⟩ := h; exact ⟨vs, e.trans e1, r.step s _ _⟩
  | dK lk kvs =>
    obtain ⟨vs, e1, e2, r⟩ := h
    exact ⟨vs, fun z => e.trans (e1 z), fun z => let ⟨o, q⟩ := e2 z; ⟨o, e.trans q⟩, r.step s _ _⟩
  | dT lk kvs =>
    obtain ⟨vs, e1, e2, r⟩ := h
    exact ⟨vs, fun z => e.trans (e1 z), fun z => let ⟨o, q⟩ := e2 z; ⟨o, e.trans q⟩, r.step s _ _⟩
  | ins c fs => obtain ⟨dx, vs, e1, e2, r⟩ := h; exact ⟨dx, vs, e.trans e1, e2, r.step s _ _⟩
/-- the table of code objects at P, of a def whose lambdas bear the name q -/
def TabOk (G : Gl0) (H : Hp) (P : Addr) (q : Str) : Prop := ∃ ps : Array Value, H P = some (.tbl ps) ∧ TriplesOk ps.toList ∧
  ∀ (pos : Pos) (cv : Value), codeAmong pos ps.toList = some cv → G.isLam pos = true → ∃ c, cv = .ref c ∧ H c = some (LamX.CodeO c q)

structure Sim (G : Gl0) (μ : List Addr) (st : Store) (H : Hp) : Prop where
  len : μ.length = st.length
  nd : μ.Nodup
  obj : ∀ (l : Nat) (o : SObj) (a : Addr), st[l]? = some o → μ[l]? = some a → ObjR G μ H a o
  tab : ∀ p ∈ G.tabs, TabOk G H p.1 p.2
  hid : ∀ a ∈ G.hid, a ∉ μ ∧ ∃ u, H a = some u ∧ Liv u
abbrev Sl := L2.St
structure Lo (G : Gl0) (μ : List Addr) (ρ : Lc) (σ : Sl) (H : Hp) : Prop where
  len : ρ.length = σ.length
  at' : ∀ (i : Nat) (d : D), ρ[i]? = some (some d) → ∃ v, σ[i]? = some (some v) ∧ Rep G μ H d v

section
variable {G : Gl0} {μ μ' : List Addr} {H H' : Hp} {st : Store} {ρ : Lc} {σ : Sl}
theorem Lo.step (l : Lo G μ ρ σ H) (s : Step μ H μ' H') : Lo G μ' ρ σ H' := ⟨l.len, fun i d e => let ⟨v, h1, h2⟩ := l.at' i d e; ⟨v, h1, h2.step s _ _⟩⟩
theorem Sim.live (S : Sim G μ st H) {a : Addr} (h : a ∈ μ) : ∃ u, H a = some u ∧ Liv u := by
  obtain ⟨l, hl, e⟩ := List.getElem_of_mem h
  have h1 : μ[l]? = some a := by rw [List.getElem?_eq_getElem hl, e]
  have h2 : l < st.length := by rw [← S.len]; exact hl
  exact (S.obj l _ a (List.getElem?_eq_getElem h2) h1).some
theorem Sim.fresh (S : Sim G μ st H) {p : Addr} (h : H p = none) : p ∉ μ := fun hm => by
  obtain ⟨u, e, _⟩ := S.live hm
  rw [h] at e
  cases e
theorem Sim.fz (S : Sim G μ st H) {p : Addr} (h : H p = none) : Fz G μ p := ⟨S.fresh h, fun hm => by
    obtain ⟨_, u, e, _⟩ := S.hid p hm
    rw [h] at e
    cases e⟩
theorem Sim.notLive (S : Sim G μ st H) {p : Addr} {u : HO} (h : H p = some u) (n : ¬ Liv u) : p ∉ μ := fun hm => by
  obtain ⟨w, e, l⟩ := S.live hm
  rw [h] at e
  cases e
  exact n l
theorem Sim.at (S : Sim G μ st H) {l : Nat} {o : SObj} (e : st[l]? = some o) : ∃ a, μ[l]? = some a ∧ ObjR G μ H a o := by
  have h2 : l < μ.length := by rw [S.len]; exact (List.getElem?_eq_some_iff.mp e).1
  exact ⟨μ[l], List.getElem?_eq_getElem h2, S.obj l o _ e (List.getElem?_eq_getElem h2)⟩
/-- a new thing that does not change -/
theorem step_new {p : Addr} {u : HO} (n : H p = none) : Step μ H μ (upd H p u) where
  pre := ⟨[], by simp, by simp⟩
  keep := fun a o _ e _ => by rw [upd_ne (ne_of_none e n)]; exact e
  keepD := fun a o _ e _ => .inl (by rw [upd_ne (ne_of_none e n)]; exact e)
  there := fun a o e => ⟨o, by rw [upd_ne (ne_of_none e n)]; exact e⟩
  lock := fun a o u e => by rw [upd_ne (ne_of_none e n)]; exact e
/-- a new thing that may change -/
theorem step_newM {p : Addr} {u : HO} (n : H p = none) : Step μ H (μ ++ [p]) (upd H p u) where
  pre := ⟨[p], rfl, fun a ha => by rw [List.mem_singleton.mp ha]; exact n⟩
  keep := fun a o _ e _ => by rw [upd_ne (ne_of_none e n)]; exact e
  keepD := fun a o _ e _ => .inl (by rw [upd_ne (ne_of_none e n)]; exact e)
  there := fun a o e => ⟨o, by rw [upd_ne (ne_of_none e n)]; exact e⟩
  lock := fun a o u e => by rw [upd_ne (ne_of_none e n)]; exact e
/-- a thing that may change is changed -/
theorem step_put {a : Addr} {u : HO} (h : a ∈ μ) (hn : ∀ o u', H a ≠ some (.frz o u')) : Step μ H μ (upd H a u) where
  lock := fun b o u' e => by rw [upd_ne (fun (z : b = a) => hn o u' (z ▸ e))]; exact e
  pre := ⟨[], by simp, by simp⟩
  keep := fun b o hb e _ => by rw [upd_ne (fun (z : b = a) => hb (by rw [z]; exact h))]; exact e
  keepD := fun b o hb e _ => .inl (by rw [upd_ne (fun (z : b = a) => hb (by rw [z]; exact h))]; exact e)
  there := fun b o e => by
    by_cases q : b = a
    · exact ⟨u, by rw [q, upd_same]⟩
    · exact ⟨o, by rw [upd_ne q]; exact e⟩
theorem TabOk.step {P : Addr} {q : Str} (S : Sim G μ st H) (s : Step μ H μ' H') (e : H' P = H P) (t : TabOk G H P q) : TabOk G H' P q := by
  obtain ⟨ps, h1, h2, h3⟩ := t
  refine ⟨ps, e.trans h1, h2, fun pos cv hc hl => ?_⟩
  obtain ⟨c, e1, e2⟩ := h3 pos cv hc hl
  exact ⟨c, e1, s.keep c _ (S.notLive e2 (fun z => z)) e2 trivial⟩
theorem Sim.tabNe (S : Sim G μ st H) {p : Addr × Str} (h : p ∈ G.tabs) : p.1 ∉ μ := by
  obtain ⟨ps, e, _⟩ := S.tab p h
  exact S.notLive e (fun z => z)
/-- the store is as it was, and all places in it -/
theorem Sim.same (S : Sim G μ st H) (s : Step μ H μ H') (e : ∀ a ∈ μ, H' a = H a) (t : ∀ p ∈ G.tabs, H' p.1 = H p.1) : Sim G μ st H' where
  len := S.len
  nd := S.nd
  obj := fun l o a h1 h2 => (S.obj l o a h1 h2).step s (e a (List.mem_of_getElem? h2))
  tab := fun p hp => (S.tab p hp).step S s (t p hp)
  hid := fun a ha => ⟨(S.hid a ha).1, by
    obtain ⟨h0, u, h1, h2⟩ := S.hid a ha
    cases u with
    | tbl ps => exact h2.elim
    | dK kvs => exact (s.keepD a _ h0 h1 trivial).elim (fun e => ⟨_, e, trivial⟩) fun ⟨o, e⟩ => ⟨_, e, trivial⟩
    | dT kvs => exact (s.keepD a _ h0 h1 trivial).elim (fun e => ⟨_, e, trivial⟩) fun ⟨o, e⟩ => ⟨_, e, trivial⟩
    | _ => exact ⟨_, s.keep a _ h0 h1 trivial, h2⟩⟩
theorem Sim.new {p : Addr} {u : HO} (S : Sim G μ st H) (n : H p = none) : Sim G μ st (upd H p u) :=
  S.same (step_new n) (fun a ha => upd_ne (fun z => S.fresh n (z ▸ ha))) fun q hq => upd_ne (fun z => by
    obtain ⟨ps, e, _⟩ := S.tab q hq
    rw [z, n] at e
    cases e)
/-- one more object -/
theorem Sim.newM {p : Addr} {u : HO} {o : SObj} (S : Sim G μ st H) (n : H p = none) (h : ObjR G (μ ++ [p]) (upd H p u) p o) : Sim G (μ ++ [p]) (st ++ [o]) (upd H p u) where
  len := by simp [S.len]
  nd := by
    rw [List.nodup_append]
    refine ⟨S.nd, by simp, fun a ha b hb e => ?_⟩
    rw [List.mem_singleton.mp hb] at e
    exact S.fresh n (e ▸ ha)
  obj := fun l o' a h1 h2 => by
    have h1 : (st ++ [o])[l]? = some o' := h1
    by_cases hl : l < st.length
    · have hm : l < μ.length := by rw [S.len]; exact hl
      rw [List.getElem?_append_left hl] at h1
      rw [List.getElem?_append_left hm] at h2
      exact (S.obj l o' a h1 h2).step (step_newM n) (upd_ne (fun z => S.fresh n (z ▸ List.mem_of_getElem? h2)))
    · have hm : ¬ l < μ.length := by rw [S.len]; exact hl
      rw [List.getElem?_append_right (Nat.le_of_not_lt hl)] at h1
      rw [List.getElem?_append_right (Nat.le_of_not_lt hm)] at h2
      have z : l - st.length = 0 := by
        have := (List.getElem?_eq_some_iff.mp h1).1
        simp at this
        omega
      have z2 : l - μ.length = 0 := by rw [S.len]; exact z
      rw [z] at h1
      rw [z2] at h2
      simp at h1 h2
      subst h1 h2
      exact h
  tab := fun q hq => (S.tab q hq).step S (step_newM n) (upd_ne (fun z => by
    obtain ⟨ps, e, _⟩ := S.tab q hq
    rw [z, n] at e
    cases e))
  hid := fun a ha => by
    obtain ⟨h1, u, h2, h3⟩ := S.hid a ha
    refine ⟨fun hm => ?_, u, by rw [upd_ne (ne_of_none h2 n)]; exact h2, h3⟩
    rcases List.mem_append.mp hm with hm | hm
    · exact h1 hm
    · rw [List.mem_singleton.mp hm, n] at h2
      cases h2
/-- an object is another one now -/
theorem Sim.put {l : Nat} {a : Addr} {u : HO} {o : SObj} (S : Sim G μ st H) (hl : μ[l]? = some a) (hn : ∀ o u', H a ≠ some (.frz o u')) (h : ObjR G μ (upd H a u) a o) : Sim G μ (List.set st l o) (upd H a u) where
  len := by simp [S.len]
  nd := S.nd
  obj := fun k o' b h1 h2 => by
    have h1 : (List.set st l o)[k]? = some o' := h1
    by_cases hk : l = k
    · subst hk
      rw [hl] at h2
      cases h2
      have hlt : l < st.length := by rw [← S.len]; exact (List.getElem?_eq_some_iff.mp hl).1
      rw [List.getElem?_set_self hlt] at h1
      cases h1
      exact h
    · rw [List.getElem?_set_ne hk] at h1
      have hba : b ≠ a := fun z => by
        subst z
        exact hk ((List.getElem?_inj (List.getElem?_eq_some_iff.mp hl).1 S.nd).mp (hl.trans h2.symm))
      exact (S.obj k o' b h1 h2).step (step_put (List.mem_of_getElem? hl) hn) (upd_ne hba)
  tab := fun q hq => (S.tab q hq).step S (step_put (List.mem_of_getElem? hl) hn) (upd_ne (fun z => S.tabNe hq (z ▸ List.mem_of_getElem? hl)))
  hid := fun b hb => by
    obtain ⟨h1, u, h2, h3⟩ := S.hid b hb
    have hba : b ≠ a := fun z => by subst z; exact h1 (List.mem_of_getElem? hl)
    exact ⟨h1, u, by rw [upd_ne hba]; exact h2, h3⟩
end
end Bk

namespace Bk
open L2 PyProof.Rows PySem.Spec PySem

/-! ## What follows an outcome -/
def Post {α β : Type} (G : Gl0) (W : WX) (rp : List Addr → Hp → α → β → Prop) (μ : List Addr) (H : Hp) (σ : Sl) (Q : β → Hp → Prop) : R α → Prop
  | .ok a st => ∀ μ' H' v, Step μ H μ' H' → Sim G μ' st H' → rp μ' H' a v → Q v H'
  | .exn c st => ∀ μ' H', Step μ H μ' H' → Sim G μ' st H' → W (.ref (G.exc c)) none σ H'
  | .stuck => False
structure Run {α β : Type} (G : Gl0) (W : WX) (rp : List Addr → Hp → α → β → Prop) (μ : List Addr) (ρ : Lc) (st : Store) (σ : Sl) (H : Hp) (Q : β → Hp → Prop) (r : R α) : Prop where
  sim : Sim G μ st H
  lo : Lo G μ ρ σ H
  post : Post G W rp μ H σ Q r
/-- the reading by the evaluator -/
def tG {α β : Type} (G : Gl0) (W : WX) (rp : List Addr → Hp → α → β → Prop) (f : Lc → Store → R α) : Sl → Hp → (β → Hp → Prop) → Prop :=
  fun σ H Q => ∃ μ ρ st, Run G W rp μ ρ st σ H Q (f ρ st)
abbrev rpB : List Addr → Hp → Bool → Bool → Prop := fun _ _ a b => a = b
abbrev tE (G : Gl0) (W : WX) (f : SE) : TE := tG G W (Rep G) f
abbrev tT (G : Gl0) (W : WX) (f : ST) : TT := tG G W rpB f
abbrev tA (G : Gl0) (W : WX) (f : SA) : TA := tG G W (RepL G) f

section
variable {α β γ δ : Type} {G : Gl0} {W : WX} {μ μ' : List Addr} {ρ : Lc} {st : Store} {σ : Sl} {H H' : Hp} {rp : List Addr → Hp → α → β → Prop} {rp2 : List Addr → Hp → γ → δ → Prop}
theorem Post.imp {Q Q' : β → Hp → Prop} {r : R α} (h : Post G W rp μ H σ Q r) (hq : ∀ v H', Q v H' → Q' v H') : Post G W rp μ H σ Q' r := by
  cases r with
  | ok a st => exact fun μ' H' v s S r => hq _ _ (h μ' H' v s S r)
  | exn c st => exact h
  | stuck => exact h
theorem Post.shift {Q : β → Hp → Prop} {r : R α} (s : Step μ H μ' H') (h : Post G W rp μ H σ Q r) : Post G W rp μ' H' σ Q r := by
  cases r with
  | ok a st => exact fun μ2 H2 v s2 S r => h μ2 H2 v (s.trans s2) S r
  | exn c st => exact fun μ2 H2 s2 S => h μ2 H2 (s.trans s2) S
  | stuck => exact h
theorem Run.imp {Q Q' : β → Hp → Prop} {r : R α} (h : Run G W rp μ ρ st σ H Q r) (hq : ∀ v H', Q v H' → Q' v H') : Run G W rp μ ρ st σ H Q' r := ⟨h.sim, h.lo, h.post.imp hq⟩
/-- one after another -/
theorem Run.bind {Q : δ → Hp → Prop} {r : R α} {g : α → Store → R γ} (h : Run G W rp2 μ ρ st σ H Q (r.bind g)) :
    Run G W rp μ ρ st σ H (fun x H1 => ∃ μ1 a st1, Step μ H μ1 H1 ∧ rp μ1 H1 a x ∧ Run G W rp2 μ1 ρ st1 σ H1 Q (g a st1)) r := by
  refine ⟨h.sim, h.lo, ?_⟩
  have p := h.post
  cases r with
  | ok a st1 => exact fun μ1 H1 v s S r => ⟨μ1, a, st1, s, r, S, h.lo.step s, p.shift s⟩
  | exn c st1 => exact p
  | stuck => exact p
/-- a plain value, nothing made -/
theorem Run.val {Q : β → Hp → Prop} {a : α} {v : β} (h : Run G W rp μ ρ st σ H Q (.ok a st)) (r : rp μ H a v) : Q v H := h.post μ H v (Step.refl _ _) h.sim r
/-- a new thing -/
theorem Run.new {Q : β → Hp → Prop} {a : α} {v : β} {p : Addr} {u : HO} (h : Run G W rp μ ρ st σ H Q (.ok a st)) (n : H p = none) (r : rp μ (upd H p u) a v) : Q v (upd H p u) :=
  h.post μ _ v (step_new n) (h.sim.new n) r
theorem Run.newM {Q : β → Hp → Prop} {a : α} {v : β} {p : Addr} {u : HO} {o : SObj} (h : Run G W rp μ ρ st σ H Q (.ok a (st ++ [o]))) (n : H p = none) (ho : ObjR G (μ ++ [p]) (upd H p u) p o) (r : rp (μ ++ [p]) (upd H p u) a v) : Q v (upd H p u) :=
  h.post _ _ v (step_newM n) (h.sim.newM n ho) r
theorem Run.put {Q : β → Hp → Prop} {a : α} {v : β} {l : Nat} {p : Addr} {u : HO} {o : SObj} (h : Run G W rp μ ρ st σ H Q (.ok a (List.set st l o))) (e : μ[l]? = some p) (hn : ∀ o u', H p ≠ some (.frz o u')) (ho : ObjR G μ (upd H p u) p o) (r : rp μ (upd H p u) a v) : Q v (upd H p u) :=
  h.post _ _ v (step_put (List.mem_of_getElem? e) hn) (h.sim.put e hn ho) r
end

/-! ## Expressions -/
theorem PEimp {X : Cx} {e : Expr} {t t' : TE} (h : PE X e t) (i : ∀ σ H Q, t' σ H Q → t σ H Q) : PE X e t' := ⟨fun pins s σ H Q I q => h.run pins s σ H Q I (i _ _ _ q)⟩
theorem PTimp {X : Cx} {e : Expr} {t t' : TT} (h : PT X e t) (i : ∀ σ H Q, t' σ H Q → t σ H Q) : PT X e t' := ⟨fun pins s σ H Q I q => h.run pins s σ H Q I (i _ _ _ q)⟩
theorem PAimp {X : Cx} {e : List Expr} {t t' : TA} (h : PA X e t) (i : ∀ σ H Q, t' σ H Q → t σ H Q) : PA X e t' := ⟨fun pos pins s σ H Q I q => h.run pos pins s σ H Q I (i _ _ _ q)⟩

def sVal (d : D) : SE := fun _ st => .ok d st
def sVar (i : Nat) : SE := fun ρ st => match ρ[i]? with
  | some (some d) => .ok d st
  | _ => .stuck
def sBin (op : D → D → Store → R D) (f g : SE) : SE := fun ρ st => (f ρ st).bind fun a st1 => (g ρ st1).bind fun b st2 => op a b st2
def sUn (op : D → Store → R D) (f : SE) : SE := fun ρ st => (f ρ st).bind fun a st1 => op a st1
def sIf (c : ST) (f g : SE) : SE := fun ρ st => (c ρ st).bind fun b st1 => if b then f ρ st1 else g ρ st1

section
variable {X : Cx} {G : Gl0} {W : WX}
theorem t_val {e : Expr} {v : V} {d : D} (h : PE X e (tC v)) (r : ∀ μ H, Rep G μ H d v) : PE X e (tE G W (sVal d)) :=
  PEimp h fun σ H Q ⟨μ, ρ, st, q⟩ => q.val (r μ H)
theorem t_var {i : Nat} {e : Expr} (h : PE X e (tVar i)) : PE X e (tE G W (sVar i)) :=
  PEimp h fun σ H Q ⟨μ, ρ, st, q⟩ => by
    unfold sVar at q
    split at q
    · rename_i d e
      obtain ⟨v, h1, h2⟩ := q.lo.at' i d e
      exact ⟨v, h1, q.val h2⟩
    · exact q.post.elim

/-- what an operator on deep values asks of its rule -/
def OpD (G : Gl0) (op : D → D → Store → R D) (rr : R2) : Prop := ∀ {W : WX} {μ ρ st σ H a b x y Q}, Run G W (Rep G) μ ρ st σ H Q (op a b st) → Rep G μ H a x → Rep G μ H b y → rr x y H Q
def UnD (G : Gl0) (op : D → Store → R D) (rr : V → Hp → VK → Prop) : Prop := ∀ {W : WX} {μ ρ st σ H a x Q}, Run G W (Rep G) μ ρ st σ H Q (op a st) → Rep G μ H a x → rr x H Q
theorem t_bin {op : Operator} {pos : Pos} {rr : R2} {o : D → D → Store → R D} {a b : Expr} {f g : SE} (ho : OpR X (binaryOp op) rr) (hd : OpD G o rr) (ha : PE X a (tE G W f)) (hb : PE X b (tE G W g)) : PE X (.BinOp a op b pos) (tE G W (sBin o f g)) :=
  PEimp (pe_op ho ha hb) fun σ H Q ⟨μ, ρ, st, q⟩ => ⟨μ, ρ, st, (Run.bind q).imp fun x H1 ⟨μ1, a, st1, s1, ra, q1⟩ => ⟨μ1, ρ, st1, (Run.bind q1).imp fun y H2 ⟨μ2, b, st2, s2, rb, q2⟩ => hd q2 (ra.step s2) rb⟩⟩
theorem t_un {op : UnaryOp} {pos : Pos} {rr : V → Hp → VK → Prop} {o : D → Store → R D} {a : Expr} {f : SE} (ho : UnR X (unaryOp op) rr) (hd : UnD G o rr) (ha : PE X a (tE G W f)) : PE X (.UnaryOp op a pos) (tE G W (sUn o f)) :=
  PEimp (pe_un ho ha) fun σ H Q ⟨μ, ρ, st, q⟩ => ⟨μ, ρ, st, (Run.bind q).imp fun x H1 ⟨μ1, a, st1, s1, ra, q1⟩ => hd q1 ra⟩
theorem t_cmp {op : CmpOp} {pos : Pos} {rr : R2} {o : D → D → Store → R D} {a b : Expr} {f g : SE} (ho : OpR X (compareOp op) rr) (hd : OpD G o rr) (hm : behindInMarks op b = false) (ha : PE X a (tE G W f)) (hb : PE X b (tE G W g)) : PE X (.Compare a [op] [b] pos) (tE G W (sBin o f g)) :=
  PEimp (pe_cmpR ho ha hb hm) fun σ H Q ⟨μ, ρ, st, q⟩ => ⟨μ, ρ, st, (Run.bind q).imp fun x H1 ⟨μ1, a, st1, s1, ra, q1⟩ => ⟨μ1, ρ, st1, (Run.bind q1).imp fun y H2 ⟨μ2, b, st2, s2, rb, q2⟩ => hd q2 (ra.step s2) rb⟩⟩
theorem t_if {pos : Pos} {c a b : Expr} {t : ST} {f g : SE} (hc : PT X c (tT G W t)) (ha : PE X a (tE G W f)) (hb : PE X b (tE G W g)) : PE X (.IfExp c a b pos) (tE G W (sIf t f g)) :=
  PEimp (pe_ifExp hc ha hb) fun σ H Q ⟨μ, ρ, st, q⟩ => ⟨μ, ρ, st, (Run.bind (rp := rpB) q).imp fun x H1 ⟨μ1, a, st1, s1, ra, q1⟩ => by
    subst ra
    cases a with
    | true => exact ⟨μ1, ρ, st1, q1⟩
    | false => exact ⟨μ1, ρ, st1, q1⟩⟩
end
end Bk

namespace Bk
open L2 PyProof.Rows PySem.Spec PySem

/-! ## Operators on deep values -/
abbrev big : Nat := 16777216
theorem big_eq : big = sizeLine := sizeLine_eq.symm
def asL (st : Store) : D → Option (List D)
  | .lst ds => some ds
  | .ref l => match st[l]? with
    | some (.lst ds) => some ds
    | _ => none
  | _ => none
def mulFit (i j : Int) : Bool := (decide (-(2 ^ 64) < i) && decide (i < 2 ^ 64)) || (decide (-(2 ^ 64) < j) && decide (j < 2 ^ 64)) || decide (i.natAbs.log2 + j.natAbs.log2 < 1000000)
def divFit (j : Int) : Bool := (decide (j ≠ 0) && decide (j.natAbs < 1073741824)) || (decide (0 < j) && decide (j.natAbs.log2 < 9000))
def repS (x : Str) (n : Int) : Str := ⟨(List.replicate n.toNat x.cps.toList).flatten.toArray⟩
def dAdd (a b : D) (st : Store) : R D := match a, b with
  | .int i, .int j => .ok (.int (i + j)) st
  | .str x, .str y => if x.length + y.length ≤ big then .ok (.str (x ++ y)) st else .stuck
  | .tup xs, .tup ys => if xs.length + ys.length ≤ big then .ok (.tup (xs ++ ys)) st else .stuck
  | _, _ => match asL st a, asL st b with
    | some xs, some ys => if xs.length + ys.length ≤ big then .ok (.lst (xs ++ ys)) st else .stuck
    | _, _ => .stuck
def dSub (a b : D) (st : Store) : R D := match a, b with
  | .int i, .int j => .ok (.int (i - j)) st
  | _, _ => .stuck
def repOk (n : Nat) (k : Int) : Bool := decide (0 ≤ k) && decide (k ≤ big) && decide (n * k.toNat ≤ big)
def dMul (a b : D) (st : Store) : R D := match a, b with
  | .int i, .int j => if mulFit i j then .ok (.int (i * j)) st else .stuck
  | .str x, .int k => if repOk x.length k then .ok (.str (repS x k)) st else .stuck
  | _, .int k => match asL st a with
    | some xs => if repOk xs.length k then .ok (.lst (List.replicate k.toNat xs).flatten) st else .stuck
    | none => .stuck
  | _, _ => .stuck
def dDiv (a b : D) (st : Store) : R D := match a, b with
  | .int i, .int j => if divFit j then .ok (.int (i.fdiv j)) st else .stuck
  | _, _ => .stuck
def dMod (a b : D) (st : Store) : R D := match a, b with
  | .int i, .int j => if j ≠ 0 then .ok (.int (i.fmod j)) st else .stuck
  | _, _ => .stuck
def dPow (a b : D) (st : Store) : R D := match a, b with
  | .int i, .int j => if 0 ≤ j ∧ j ≤ 1000000 ∧ i.natAbs < 2 ^ 64 then .ok (.int (i ^ j.toNat)) st else .stuck
  | _, _ => .stuck
def dNeg (a : D) (st : Store) : R D := match a with
  | .int i => .ok (.int (-i)) st
  | _ => .stuck

section
variable {G : Gl0} {W : WX} {μ : List Addr} {ρ : Lc} {st : Store} {σ : Sl} {H : Hp} {a b : D} {x y : V} {Q : VK}
/-- a list, made to stay or not -/
theorem asL_rep {ds : List D} (S : Sim G μ st H) (e : asL st a = some ds) (r : Rep G μ H a x) : ∃ p vs, x = .ref p ∧ H p = some (.lst vs) ∧ RepL G μ H ds vs := by
  unfold asL at e
  split at e
  · cases e
    cases r with
    | lst h0 h1 h2 => exact ⟨_, _, rfl, h1, h2⟩
  · rename_i l
    split at e
    · rename_i ds' h
      cases e
      cases r with
      | ref h0 =>
        obtain ⟨vs, e1, e2⟩ := S.obj _ _ _ h h0
        exact ⟨_, vs, rfl, e1, e2⟩
    · cases e
  · cases e
theorem RepL.len {ds : List D} {vs : List V} : RepL G μ H ds vs → ds.length = vs.length := by
  intro h
  induction ds generalizing vs with
  | nil => cases h; rfl
  | cons d ds ih =>
    cases h with
    | cons _ h => rw [List.length_cons, List.length_cons, ih h]
theorem RepL.app : ∀ {ds es : List D} {vs us : List V}, RepL G μ H ds vs → RepL G μ H es us → RepL G μ H (ds ++ es) (vs ++ us)
  | [], _, _, _, h, k => by cases h; exact k
  | d :: ds, _, _, _, h, k => by
    cases h with
    | cons h1 h2 => exact .cons h1 (RepL.app h2 k)
theorem RepL.rep {ds : List D} {vs : List V} (h : RepL G μ H ds vs) : ∀ n, RepL G μ H (List.replicate n ds).flatten (List.replicate n vs).flatten
  | 0 => .nil
  | n + 1 => by
    rw [List.replicate_succ, List.replicate_succ, List.flatten_cons, List.flatten_cons]
    exact h.app (RepL.rep h n)
theorem RepL.get : ∀ {ds : List D} {vs : List V} {i : Nat} {d : D}, RepL G μ H ds vs → ds[i]? = some d → ∃ v, vs[i]? = some v ∧ Rep G μ H d v
  | [], _, _, _, h, e => by simp at e
  | c :: ds, _, 0, d, h, e => by
    cases h with
    | cons h1 h2 => simp at e; subst e; exact ⟨_, rfl, h1⟩
  | c :: ds, _, i + 1, d, h, e => by
    cases h with
    | cons h1 h2 =>
      obtain ⟨v, h3, h4⟩ := RepL.get h2 (by simpa using e)
      exact ⟨v, by simpa using h3, h4⟩
theorem RepL.emp {ds : List D} {vs : List V} (h : RepL G μ H ds vs) : ds = [] ↔ vs = [] := by cases h <;> simp
theorem Rep.tupAt {ds : List D} (r : Rep G μ H (.tup ds) x) : ∃ p vs, x = .ref p ∧ SqT G.K H p vs ∧ RepL G μ H ds vs := by
  cases r with
  | tup h0 h1 h2 => exact ⟨_, _, rfl, SqT.of h1, h2⟩
def asTup : D → Option (List D)
  | .tup ds => some ds
  | .ktup ds => some ds
  | _ => none
theorem asTup_rep {ds : List D} (e : asTup a = some ds) (r : Rep G μ H a x) : ∃ p vs, x = .ref p ∧ SqT G.K H p vs ∧ RepL G μ H ds vs := by
  unfold asTup at e
  split at e
  · cases e; exact r.tupAt
  · cases e
    cases r with
    | ktup h1 h2 => exact ⟨_, _, rfl, .inr h1, h2⟩
  · cases e
/-- a new list or tuple that stays -/
theorem Rep.newL {p : Addr} {ds : List D} {vs : List V} (S : Sim G μ st H) (n : H p = none) (r : RepL G μ H ds vs) : Rep G μ (upd H p (.lst vs)) (.lst ds) (.ref p) := .lst (S.fz n) upd_same (r.step (step_new n) _ _)
theorem Rep.newT {p : Addr} {ds : List D} {vs : List V} (S : Sim G μ st H) (n : H p = none) (r : RepL G μ H ds vs) : Rep G μ (upd H p (.tup vs)) (.tup ds) (.ref p) := .tup (S.fz n) upd_same (r.step (step_new n) _ _)
end

/-! ### + -/
def rAddU (K : PySem.W.Frag) : R2 := fun x y H Q => (∃ i j, x = .int i ∧ y = .int j ∧ Q (.int (i + j)) H) ∨ (∃ i j, x = .str i ∧ y = .str j ∧ i.length + j.length ≤ sizeLine ∧ Q (.str (i ++ j)) H) ∨ rCat x y H Q ∨ rCatA K x y H Q
theorem op_addU {X : Cx} : OpR X (binaryOp .Add) (rAddU X.K) := by
  intro pins s σ H x y v u Q I rx ry h
  rcases h with h | h | h | h
  · exact op_add pins s σ H x y v u Q I rx ry h
  · exact op_add_str pins s σ H x y v u Q I rx ry h
  · exact op_cat pins s σ H x y v u Q I rx ry h
  · exact op_catA pins s σ H x y v u Q I rx ry h
theorem d_add {G : Gl0} : OpD G dAdd (rAddU G.K) := by
  intro W μ ρ st σ H a b x y Q q ra rb
  unfold dAdd at q
  split at q
  · cases ra; cases rb
    exact .inl ⟨_, _, rfl, rfl, q.val (.int _)⟩
  · cases ra; cases rb
    split at q
    · rename_i h
      exact .inr (.inl ⟨_, _, rfl, rfl, by rw [← big_eq]; exact h, q.val (.str _)⟩)
    · exact q.post.elim
  · rename_i xs ys
    split at q
    · rename_i h
      obtain ⟨p, vs, rfl, h1, h2⟩ := ra.tupAt
      obtain ⟨p', us, rfl, h3, h4⟩ := rb.tupAt
      have hl := h2.len
      have hl' := h4.len
      refine .inr (.inr (.inr ⟨_, _, _, _, rfl, rfl, h1, h3, by rw [← big_eq, ← hl, ← hl']; exact h, fun z => ?_, fun _ z => ?_, fun _ z p'' n => ?_⟩))
      · have e : xs = [] := h2.emp.mpr z
        subst e
        exact q.val rb
      · have e : ys = [] := h4.emp.mpr z
        subst e
        rw [List.append_nil] at q
        exact q.val ra
      · exact q.new n (.newT q.sim n (h2.app h4))
    · exact q.post.elim
  · split at q
    · rename_i xs ys e1 e2
      split at q
      · rename_i h
        obtain ⟨p, vs, rfl, h1, h2⟩ := asL_rep q.sim e1 ra
        obtain ⟨p', us, rfl, h3, h4⟩ := asL_rep q.sim e2 rb
        have hl := h2.len
        have hl' := h4.len
        exact .inr (.inr (.inl ⟨_, _, _, _, rfl, rfl, h1, h3, by rw [← big_eq, ← hl, ← hl']; exact h, fun p'' n => q.new n (.newL q.sim n (h2.app h4))⟩))
      · exact q.post.elim
    · exact q.post.elim
theorem d_sub {G : Gl0} : OpD G dSub (rI0 fun i j => .int (i - j)) := by
  intro W μ ρ st σ H a b x y Q q ra rb
  unfold dSub at q
  split at q
  · cases ra; cases rb
    exact ⟨_, _, rfl, rfl, q.val (.int _)⟩
  · exact q.post.elim

/-! ### * -/
def CMulU (i j : Int) : Prop := CMul i j ∨ CMulW i j
theorem mulFit_ok {i j : Int} (h : mulFit i j = true) : CMulU i j := by
  unfold mulFit at h
  simp only [Bool.or_eq_true, Bool.and_eq_true, decide_eq_true_eq] at h
  rcases h with (h | h) | h
  · exact .inl (.inl h)
  · exact .inl (.inr h)
  · exact .inr h
def rMulU : R2 := fun x y H Q => rI CMulU (fun i j => .int (i * j)) x y H Q ∨ (∃ s k, x = .str s ∧ y = .int k ∧ repOk s.length k = true ∧ Q (.str (repS s k)) H) ∨ rRep x y H Q
theorem foldl_app : ∀ (l : List (Array Nat)) (acc : Array Nat), (l.foldl (· ++ ·) acc).toList = acc.toList ++ (l.map Array.toList).flatten
  | [], acc => by simp
  | a :: l, acc => by
    rw [List.foldl_cons, foldl_app l, List.map_cons, List.flatten_cons, Array.toList_append, List.append_assoc]
theorem repS_eq {x : Str} {n : Int} : (⟨(List.replicate n.toNat x.cps).foldl (· ++ ·) #[]⟩ : Str) = repS x n := by
  unfold repS
  congr 1
  apply Array.ext'
  rw [foldl_app]
  simp
theorem op_mulS {X : Cx} : OpR X (binaryOp .Mult) (fun x y H Q => ∃ s k, x = .str s ∧ y = .int k ∧ repOk s.length k = true ∧ Q (.str (repS s k)) H) := by
  intro pins s σ H x y v u Q I rx ry h
  obtain ⟨z, k, rfl, rfl, hk, q⟩ := h
  obtain ⟨t, rfl⟩ := rx
  obtain ⟨t', rfl⟩ := ry
  unfold repOk at hk
  simp only [Bool.and_eq_true, decide_eq_true_eq] at hk
  obtain ⟨⟨h0, h1⟩, h2⟩ := hk
  have hk63 : ¬ k < -(2 ^ 63 : Int) := by omega
  have hk64 : ¬ k ≥ 2 ^ 63 := by
    have : (big : Int) < 2 ^ 63 := by decide
    omega
  have done : ∀ {y' : Str} {tk : Nat}, y' = repS z k → ∀ t2, EP X pins σ Q (.str y' t2) { s with toks := tk } := fun {y' tk} e t2 => ⟨.str y', H, I.tok _, ⟨_, rfl⟩, by rw [e]; exact q⟩
  refine PySem.P.mul_str (by rw [decide_eq_false hk63, decide_eq_false hk64]; rfl) (fun g1 g2 => ?_) (fun g1 g2 => ?_) ?_
  · have hk1 : 1 ≤ k := by omega
    have hh : z.length * k.toNat ≤ big := h2
    have e : ((z.length * k.toNat : Nat) : Int) = (z.length : Int) * k := by
      rw [Int.natCast_mul, Int.toNat_of_nonneg h0]
    have e2 : (z.length : Int) * k ≤ big := by rw [← e]; exact_mod_cast hh
    have e3 : (z.length : Int) ≤ (2 ^ 63 - 1) / k := by
      refine (Int.le_ediv_iff_mul_le (by omega)).mpr ?_
      have : (big : Int) ≤ 2 ^ 63 - 1 := by decide
      omega
    omega
  · have hz : z.length * k.toNat ≤ sizeLine := by rw [← big_eq]; exact h2
    show decide (z.length * k.toNat > sizeLine) = false
    exact decide_eq_false (by omega)
  · split
    · rename_i g1
      have e : k.toNat = 0 := by omega
      refine ⟨by decide, done (tk := s.toks + 1) ?_ _⟩
      unfold repS
      rw [e]
      rfl
    · rename_i g1
      split
      · rename_i g2
        refine ⟨.str z, H, I, ⟨_, rfl⟩, ?_⟩
        have e : repS z k = z := by
          simp only [Bool.or_eq_true, beq_iff_eq] at g2
          unfold repS
          rcases g2 with g2 | g2
          · rw [g2]
            simp
          · have e : z.cps.toList = [] := List.eq_nil_of_length_eq_zero (by rw [Array.length_toList]; exact g2)
            rw [e]
            have : z.cps = #[] := Array.ext' e
            cases z
            simp_all
        rw [e] at q
        exact q
      · refine ⟨?_, done (tk := s.toks + 1) repS_eq _⟩
        rw [repS_eq]
        show (repS z k).cps.size ≤ sizeLine
        unfold repS
        rw [List.size_toArray, List.length_flatten, List.map_replicate, List.sum_replicate_nat, Array.length_toList, ← big_eq, Nat.mul_comm]
        exact h2
theorem op_mulU {X : Cx} : OpR X (binaryOp .Mult) rMulU := by
  intro pins s σ H x y v u Q I rx ry h
  rcases h with ⟨i, j, e1, e2, hc, q⟩ | h | h
  · rcases hc with hc | hc
    · exact op_mul pins s σ H x y v u Q I rx ry ⟨i, j, e1, e2, hc, q⟩
    · exact op_mulW pins s σ H x y v u Q I rx ry ⟨i, j, e1, e2, hc, q⟩
  · exact op_mulS pins s σ H x y v u Q I rx ry h
  · exact op_rep pins s σ H x y v u Q I rx ry h
theorem d_mul {G : Gl0} : OpD G dMul rMulU := by
  intro W μ ρ st σ H a b x y Q q ra rb
  unfold dMul at q
  split at q
  · cases ra; cases rb
    split at q
    · rename_i h
      exact .inl ⟨_, _, rfl, rfl, mulFit_ok h, q.val (.int _)⟩
    · exact q.post.elim
  · cases ra; cases rb
    split at q
    · rename_i h
      exact .inr (.inl ⟨_, _, rfl, rfl, h, q.val (.str _)⟩)
    · exact q.post.elim
  · cases rb
    split at q
    · rename_i xs e1
      split at q
      · rename_i h
        obtain ⟨p, vs, rfl, h1, h2⟩ := asL_rep q.sim e1 ra
        unfold repOk at h
        simp only [Bool.and_eq_true, decide_eq_true_eq] at h
        obtain ⟨⟨h3, h4⟩, h5⟩ := h
        have hb : (big : Int) < 2 ^ 63 := by decide
        exact .inr (.inr ⟨_, _, _, rfl, rfl, h1, by omega, by omega, by rw [← big_eq, ← h2.len]; exact h5, fun p'' n => q.new n (.newL q.sim n (h2.rep _))⟩)
      · exact q.post.elim
    · exact q.post.elim
  · exact q.post.elim

/-! ### //, %, **, - -/
def CDivU (i j : Int) : Prop := CDivN i j ∨ CDivW i j
theorem op_divU {X : Cx} : OpR X (binaryOp .FloorDiv) (rI CDivU fun i j => .int (i.fdiv j)) := by
  intro pins s σ H x y v u Q I rx ry h
  obtain ⟨i, j, e1, e2, hc, q⟩ := h
  rcases hc with hc | hc
  · exact op_fdivN pins s σ H x y v u Q I rx ry ⟨i, j, e1, e2, hc, q⟩
  · exact op_fdivW pins s σ H x y v u Q I rx ry ⟨i, j, e1, e2, hc, by have q2 : Q (.int (i.fdiv j)) H := q; rw [Int.fdiv_eq_ediv_of_nonneg _ (Int.le_of_lt hc.1)] at q2; exact q2⟩
theorem d_div {G : Gl0} : OpD G dDiv (rI CDivU fun i j => .int (i.fdiv j)) := by
  intro W μ ρ st σ H a b x y Q q ra rb
  unfold dDiv at q
  split at q
  · cases ra; cases rb
    split at q
    · rename_i h
      unfold divFit at h
      simp only [Bool.or_eq_true, Bool.and_eq_true, decide_eq_true_eq] at h
      exact ⟨_, _, rfl, rfl, h, q.val (.int _)⟩
    · exact q.post.elim
  · exact q.post.elim
theorem d_mod {G : Gl0} : OpD G dMod (rI (fun _ j => j ≠ 0) fun i j => .int (i.fmod j)) := by
  intro W μ ρ st σ H a b x y Q q ra rb
  unfold dMod at q
  split at q
  · cases ra; cases rb
    split at q
    · rename_i h
      exact ⟨_, _, rfl, rfl, h, q.val (.int _)⟩
    · exact q.post.elim
  · exact q.post.elim
theorem d_pow {G : Gl0} : OpD G dPow (rI CPow fun i j => .int (i ^ j.toNat)) := by
  intro W μ ρ st σ H a b x y Q q ra rb
  unfold dPow at q
  split at q
  · cases ra; cases rb
    split at q
    · rename_i h
      exact ⟨_, _, rfl, rfl, h, q.val (.int _)⟩
    · exact q.post.elim
  · exact q.post.elim
theorem d_neg {G : Gl0} : UnD G dNeg (rU fun i => .int (-i)) := by
  intro W μ ρ st σ H a x Q q ra
  unfold dNeg at q
  split at q
  · cases ra
    exact ⟨_, rfl, q.val (.int _)⟩
  · exact q.post.elim
end Bk

namespace Bk
open L2 PyProof.Rows PySem.Spec PySem

/-! ## == of deep values without dicts -/
def numOf : D → Option Int
  | .int i => some i
  | .bl b => some (if b then 1 else 0)
  | _ => none
/-- the kind: 0 None, 1 bool, 2 int, 3 text, 4 list, 5 tuple -/
def kd (st : Store) : D → Option Nat
  | .non => some 0
  | .bl _ => some 1
  | .int _ => some 2
  | .str _ => some 3
  | .tup _ => some 5
  | .ktup _ => some 5
  | d => (asL st d).map fun _ => 4
def eqAll (f : D → D → Option Bool) : List D → List D → Option Bool
  | [], [] => some true
  | [], _ :: _ => some false
  | _ :: _, [] => some false
  | x :: xs, y :: ys => (f x y).bind fun b => (eqAll f xs ys).map fun c => b && c
def eqN (st : Store) : Nat → D → D → Option Bool
  | 0, _, _ => none
  | n + 1, a, b => match numOf a, numOf b with
    | some i, some j => some (i == j)
    | _, _ => match a, b with
      | .non, .non => some true
      | .str x, .str y => some (x == y)
      | _, _ => match asTup a, asTup b with
        | some xs, some ys => eqAll (eqN st n) xs ys
        | _, _ => match asL st a, asL st b with
          | some xs, some ys => if xs.length = ys.length then eqAll (eqN st n) xs ys else some false
          | _, _ => match kd st a, kd st b with
            | some i, some j => if i = j then none else some false
            | _, _ => none

/-- the shapes of values -/
inductive VS (s : Shared) : Value → Nat → Prop
  | non : VS s .none 0
  | bl (b : Bool) : VS s (.bool b) 1
  | int (i : Int) (t : Tok) : VS s (.int i t) 2
  | str (x : Str) (t : Tok) : VS s (.str x t) 3
  | lst {l : Addr} {items : Array Value} : s.heap.IsList l items → VS s (.ref l) 4
  | tup {l : Addr} {items : Array Value} : s.heap.IsTuple l items → VS s (.ref l) 5
open SeqAt in
theorem VS.ne {A : Around} {s : Shared} {v u : Value} {i j : Nat} (hu : A.units < cLine) : VS s v i → VS s u j → i ≠ j → ¬ (i = 1 ∧ j = 2) → ¬ (i = 2 ∧ j = 1) → EqAt A s v u false
  | .non, .non, hn, _, _ => absurd rfl hn
  | .non, .bl b2, _, _, _ => EqAt.none_bool b2
  | .non, .int i2 t2, _, _, _ => EqAt.none_int i2 t2
  | .non, .str x2 t2, _, _, _ => EqAt.none_str x2 t2
  | .non, .lst h2, _, _, _ => EqAt.none_list h2 hu
  | .non, .tup h2, _, _, _ => EqAt.none_tuple h2 hu
  | .bl b, .non, _, _, _ => EqAt.bool_none b
  | .bl b, .bl b2, hn, _, _ => absurd rfl hn
  | .bl b, .int i2 t2, _, h1, _ => absurd ⟨rfl, rfl⟩ h1
  | .bl b, .str x2 t2, _, _, _ => EqAt.bool_str b x2 t2
  | .bl b, .lst h2, _, _, _ => EqAt.bool_list b h2 hu
  | .bl b, .tup h2, _, _, _ => EqAt.bool_tuple b h2 hu
  | .int i t, .non, _, _, _ => EqAt.int_none i t
  | .int i t, .bl b2, _, _, h2 => absurd ⟨rfl, rfl⟩ h2
  | .int i t, .int i2 t2, hn, _, _ => absurd rfl hn
  | .int i t, .str x2 t2, _, _, _ => EqAt.int_str i t x2 t2
  | .int i t, .lst h2, _, _, _ => EqAt.int_list i t h2 hu
  | .int i t, .tup h2, _, _, _ => EqAt.int_tuple i t h2 hu
  | .str x t, .non, _, _, _ => EqAt.str_none x t
  | .str x t, .bl b2, _, _, _ => EqAt.str_bool x t b2
  | .str x t, .int i2 t2, _, _, _ => EqAt.str_int x t i2 t2
  | .str x t, .str x2 t2, hn, _, _ => absurd rfl hn
  | .str x t, .lst h2, _, _, _ => EqAt.str_list x t h2 hu
  | .str x t, .tup h2, _, _, _ => EqAt.str_tuple x t h2 hu
  | .lst h, .non, _, _, _ => EqAt.list_none h hu
  | .lst h, .bl b2, _, _, _ => EqAt.list_bool b2 h hu
  | .lst h, .int i2 t2, _, _, _ => EqAt.list_int i2 t2 h hu
  | .lst h, .str x2 t2, _, _, _ => EqAt.list_str x2 t2 h hu
  | .lst h, .lst h2, hn, _, _ => absurd rfl hn
  | .lst h, .tup h2, _, _, _ => EqAt.list_tuple h h2 hu
  | .tup h, .non, _, _, _ => EqAt.tuple_none h hu
  | .tup h, .bl b2, _, _, _ => EqAt.tuple_bool b2 h hu
  | .tup h, .int i2 t2, _, _, _ => EqAt.tuple_int i2 t2 h hu
  | .tup h, .str x2 t2, _, _, _ => EqAt.tuple_str x2 t2 h hu
  | .tup h, .lst h2, _, _, _ => EqAt.tuple_list h h2 hu
  | .tup h, .tup h2, hn, _, _ => absurd rfl hn

section
variable {X : Cx} {pins : List (Addr × Obj)} {σ : Sl} {H : Hp} {s : Shared} {G : Gl0} {μ : List Addr} {st : Store}
theorem asL_at (I : Inv X pins σ H s) (S : Sim G μ st H) {a : D} {ds : List D} {x : V} {v : Value} (e : asL st a = some ds) (r : Rep G μ H a x) (rv : RelV x v) :
    ∃ l vs us, v = .ref l ∧ s.heap.IsList l us.toArray ∧ RepL G μ H ds vs ∧ Vals vs us := by
  obtain ⟨p, vs, rfl, h1, h2⟩ := asL_rep S e r
  cases rv
  obtain ⟨its, r1, p1, _⟩ := I.list (SqL.of h1)
  exact ⟨p, vs, its, rfl, p1.isList, h2, r1⟩
theorem tup_at (I : Inv X pins σ H s) (hK : G.K = X.K) {a : D} {ds : List D} {x : V} {v : Value} (e : asTup a = some ds) (r : Rep G μ H a x) (rv : RelV x v) :
    ∃ l vs us, v = .ref l ∧ s.heap.IsTuple l us.toArray ∧ RepL G μ H ds vs ∧ Vals vs us := by
  obtain ⟨p, vs, rfl, h1, h2⟩ := asTup_rep e r
  cases rv
  rw [hK] at h1
  obtain ⟨its, r1, p1, _⟩ := I.tuple h1
  exact ⟨p, vs, its, rfl, p1, h2, r1⟩
theorem kd_vs (I : Inv X pins σ H s) (S : Sim G μ st H) (hK : G.K = X.K) {a : D} {k : Nat} {x : V} {v : Value} (e : kd st a = some k) (r : Rep G μ H a x) (rv : RelV x v) : VS s v k := by
  unfold kd at e
  split at e
  · cases e; cases r; cases rv; exact .non
  · cases e; cases r; cases rv; exact .bl _
  · cases e; cases r; obtain ⟨t, rfl⟩ := rv; exact .int _ _
  · cases e; cases r; obtain ⟨t, rfl⟩ := rv; exact .str _ _
  · cases e
    obtain ⟨l, vs, us, rfl, h1, _⟩ := tup_at I hK rfl r rv
    exact .tup h1
  · cases e
    obtain ⟨l, vs, us, rfl, h1, _⟩ := tup_at I hK rfl r rv
    exact .tup h1
  · cases q : asL st a with
    | none => rw [q] at e; cases e
    | some ds =>
      rw [q] at e
      cases e
      obtain ⟨l, vs, us, rfl, h1, _⟩ := asL_at I S q r rv
      exact .lst h1
theorem num_at {a : D} {i : Int} {x : V} {v : Value} (e : numOf a = some i) (r : Rep G μ H a x) (rv : RelV x v) : (∃ b : Bool, v = .bool b ∧ i = if b then 1 else 0) ∨ ∃ t, v = .int i t := by
  unfold numOf at e
  split at e
  · cases e; cases r; obtain ⟨t, rfl⟩ := rv; exact .inr ⟨_, rfl⟩
  · cases e; cases r; cases rv; exact .inl ⟨_, rfl, rfl⟩
  · cases e
open SeqAt in
theorem num_eq {A : Around} {v u : Value} {i j : Int} (h : (∃ b : Bool, v = .bool b ∧ i = if b then 1 else 0) ∨ ∃ t, v = .int i t) (k : (∃ b : Bool, u = .bool b ∧ j = if b then 1 else 0) ∨ ∃ t, u = .int j t) : EqAt A s v u (i == j) := by
  rcases h with ⟨b, rfl, rfl⟩ | ⟨t, rfl⟩
  · rcases k with ⟨c, rfl, rfl⟩ | ⟨t', rfl⟩
    · have e : (((if b = true then 1 else 0 : Int)) == (if c = true then 1 else 0)) = (b == c) := by cases b <;> cases c <;> rfl
      rw [e]
      exact EqAt.bool_bool b c
    · exact EqAt.bool_int b j t'
  · rcases k with ⟨c, rfl, rfl⟩ | ⟨t', rfl⟩
    · exact EqAt.int_bool i t c
    · exact EqAt.int_int i t j t'
/-- item by item -/
theorem eqAll_at {A : Around} {f : D → D → Option Bool} (hf : ∀ a b r x y v u, f a b = some r → Rep G μ H a x → Rep G μ H b y → RelV x v → RelV y u → SeqAt.EqAt A s v u r) :
    ∀ (xs ys : List D) (r : Bool) (vs ws : List V) (us zs : List Value), eqAll f xs ys = some r → RepL G μ H xs vs → RepL G μ H ys ws → Vals vs us → Vals ws zs →
      ∃ e : Nat → Bool, (∀ j (h1 : j < us.length) (h2 : j < zs.length), SeqAt.EqAt A s us[j] zs[j] (e j)) ∧ r = ((List.range (min us.length zs.length)).all e && us.length == zs.length)
  | [], ys, r, vs, ws, us, zs, h, r1, r2, v1, v2 => by
    cases r1; cases v1
    refine ⟨fun _ => true, fun j h1 _ => absurd h1 (Nat.not_lt_zero j), ?_⟩
    have l2 := r2.len
    have l3 := v2.length
    cases ys with
    | nil =>
      cases h
      have : zs.length = 0 := by rw [← l3, ← l2]; rfl
      simp [this]
    | cons y ys =>
      cases h
      have : zs.length = ys.length + 1 := by rw [← l3, ← l2]; rfl
      simp [this]
  | x :: xs, [], r, vs, ws, us, zs, h, r1, r2, v1, v2 => by
    cases r2; cases v2
    cases h
    have l1 := r1.len
    have l3 := v1.length
    refine ⟨fun _ => true, fun j _ h2 => absurd h2 (Nat.not_lt_zero j), ?_⟩
    have : us.length = xs.length + 1 := by rw [← l3, ← l1]; rfl
    simp [this]
  | x :: xs, y :: ys, r, vs, ws, us, zs, h, r1, r2, v1, v2 => by
    cases r1 with
    | cons a1 a2 =>
      cases r2 with
      | cons b1 b2 =>
        cases v1 with
        | cons c1 c2 =>
          cases v2 with
          | cons d1 d2 =>
            rename_i us zs
            unfold eqAll at h
            cases q : f x y with
            | none => rw [q] at h; cases h
            | some b =>
              rw [q] at h
              cases q2 : eqAll f xs ys with
              | none => rw [q2] at h; cases h
              | some c =>
                rw [q2] at h
                cases h
                have e1 := hf _ _ _ _ _ _ _ q a1 b1 c1 d1
                obtain ⟨e, g1, g2⟩ := eqAll_at hf xs ys c _ _ _ _ q2 a2 b2 c2 d2
                refine ⟨fun j => match j with | 0 => b | j + 1 => e j, fun j h1 h2 => ?_, ?_⟩
                · cases j with
                  | zero => exact e1
                  | succ j => exact g1 j (Nat.lt_of_succ_lt_succ h1) (Nat.lt_of_succ_lt_succ h2)
                · rw [g2]
                  simp only [List.length_cons, Nat.succ_min_succ, List.range_succ_eq_map, List.all_cons, List.all_map, Function.comp_def]
                  rw [Bool.and_assoc]
                  congr 2
                  simp
theorem kd_num {a : D} {k : Nat} (e : kd st a = some k) (h : k = 1 ∨ k = 2) : ∃ i, numOf a = some i := by
  unfold kd at e
  split at e
  · cases e; rcases h with h | h <;> cases h
  · exact ⟨_, rfl⟩
  · exact ⟨_, rfl⟩
  · cases e; rcases h with h | h <;> cases h
  · cases e; rcases h with h | h <;> cases h
  · cases e; rcases h with h | h <;> cases h
  · cases q : asL st a with
    | none => rw [q] at e; cases e
    | some ds =>
      rw [q] at e
      cases e
      rcases h with h | h <;> cases h
/-- what stands for two of one thing is the same -/
theorem eqAll_same {f : D → D → Option Bool} (hf : ∀ a b r x, f a b = some r → Rep G μ H a x → Rep G μ H b x → r = true) : ∀ (xs ys : List D) (r : Bool) (vs : List V), eqAll f xs ys = some r → RepL G μ H xs vs → RepL G μ H ys vs → r = true
  | [], [], _, _, h, _, _ => by cases h; rfl
  | [], _ :: _, _, _, _, r1, r2 => by cases r1; cases r2
  | _ :: _, [], _, _, _, r1, r2 => by cases r1; cases r2
  | x :: xs, y :: ys, r, _, h, r1, r2 => by
    cases r1 with
    | cons a1 a2 =>
      cases r2 with
      | cons b1 b2 =>
        unfold eqAll at h
        cases q : f x y with
        | none => rw [q] at h; cases h
        | some b =>
          rw [q] at h
          cases q2 : eqAll f xs ys with
          | none => rw [q2] at h; cases h
          | some c =>
            rw [q2] at h
            cases h
            rw [hf _ _ _ _ q a1 b1, eqAll_same hf xs ys c _ q2 a2 b2]
            rfl
theorem eqN_same (I : Inv X pins σ H s) (S : Sim G μ st H) (hK : G.K = X.K) : ∀ (n : Nat) (a b : D) (r : Bool) (x : V), eqN st n a b = some r → Rep G μ H a x → Rep G μ H b x → r = true
  | 0, _, _, _, _, h, _, _ => by cases h
  | n + 1, a, b, r, x, h, ra, rb => by
    have ih := eqN_same I S hK n
    unfold eqN at h
    split at h
    · rename_i i j e1 e2
      cases h
      have : i = j := by
        cases ra <;> first | (cases e1; done) | skip
        all_goals (cases rb <;> first | (cases e2; done) | skip)
        all_goals (cases e1; cases e2; rfl)
      simp [this]
    · split at h
      · cases h; rfl
      · cases ra; cases rb; cases h; simp
      · split at h
        · rename_i xs ys e1 e2
          obtain ⟨p, vs, rfl, h1, h2⟩ := asTup_rep e1 ra
          obtain ⟨p', us, e, h3, h4⟩ := asTup_rep e2 rb
          cases e
          rw [hK] at h1 h3
          rw [I.tuple_inj h1 h3] at h2
          exact eqAll_same ih _ _ _ _ h h2 h4
        · split at h
          · rename_i xs ys e1 e2
            obtain ⟨p, vs, rfl, h1, h2⟩ := asL_rep S e1 ra
            obtain ⟨p', us, e, h3, h4⟩ := asL_rep S e2 rb
            cases e
            rw [h1] at h3
            cases h3
            have l1 := h2.len
            have l2 := h4.len
            rw [if_pos (l1.trans l2.symm)] at h
            exact eqAll_same ih _ _ _ _ h h2 h4
          · split at h
            · rename_i i j e1 e2
              split at h
              · cases h
              · rename_i hn
                cases h
                obtain ⟨v, hv⟩ : ∃ v, RelV x v := by
                  cases x with
                  | non => exact ⟨_, rfl⟩
                  | bl b => exact ⟨_, rfl⟩
                  | int i => exact ⟨_, 0, rfl⟩
                  | str i => exact ⟨_, 0, rfl⟩
                  | byt i => exact ⟨_, 0, rfl⟩
                  | flt i => exact ⟨_, 0, rfl⟩
                  | ref i => exact ⟨_, rfl⟩
                  | ty i => exact ⟨_, rfl⟩
                have z1 := kd_vs I S hK e1 ra hv
                have z2 := kd_vs I S hK e2 rb hv
                exfalso
                apply hn
                cases z1 with
                | non => cases z2; rfl
                | bl => cases z2; rfl
                | int => cases z2; rfl
                | str => cases z2; rfl
                | lst i1 =>
                  cases z2 with
                  | lst _ => rfl
                  | tup i2 =>
                    obtain ⟨o, q1, q2, _⟩ := i1
                    obtain ⟨o', q3, q4, _⟩ := i2
                    rw [q1] at q3
                    cases q3
                    have q5 := q2.symm.trans q4
                    injection q5 with q5
                    exact absurd q5 (by decide)
                | tup i1 =>
                  cases z2 with
                  | tup _ => rfl
                  | lst i2 =>
                    obtain ⟨o, q1, q2, _⟩ := i1
                    obtain ⟨o', q3, q4, _⟩ := i2
                    rw [q1] at q3
                    cases q3
                    have q5 := q2.symm.trans q4
                    injection q5 with q5
                    exact absurd q5 (by decide)
            · cases h
theorem range_min {n m : Nat} (h : n = m) (e : Nat → Bool) : ((List.range (min n m)).all e && n == m) = (List.range n).all e := by
  subst h
  simp
open SeqAt in
theorem eqN_at (I : Inv X pins σ H s) (S : Sim G μ st H) (hK : G.K = X.K) : ∀ (n : Nat) (a b : D) (r : Bool) (x y : V) (v u : Value), eqN st n a b = some r → Rep G μ H a x → Rep G μ H b y → RelV x v → RelV y u → ∀ A : Around, A.units + n < cLine → EqAt A s v u r
  | 0, _, _, _, _, _, _, _, h, _, _, _, _, _, _ => by cases h
  | n + 1, a, b, r, x, y, v, u, h, ra, rb, rv, ru, A, hu => by
    have hu1 : A.in1.units + n < cLine := by show A.units + 1 + n < cLine; omega
    have ih := fun a b r x y v u h ra rb rv ru => eqN_at I S hK n a b r x y v u h ra rb rv ru A.in1 hu1
    have h0 := h
    unfold eqN at h
    split at h
    · rename_i i j e1 e2
      cases h
      exact num_eq (num_at e1 ra rv) (num_at e2 rb ru)
    · rename_i hnum
      split at h
      · cases h; cases ra; cases rb; cases rv; cases ru; exact EqAt.same _
      · cases h; cases ra; cases rb; obtain ⟨t, rfl⟩ := rv; obtain ⟨t', rfl⟩ := ru; exact EqAt.str_str _ _ _ _
      · split at h
        · rename_i xs ys e1 e2
          obtain ⟨l, vs, us, rfl, i1, r1, v1⟩ := tup_at I hK e1 ra rv
          obtain ⟨l', ws, zs, rfl, i2, r2, v2⟩ := tup_at I hK e2 rb ru
          obtain ⟨e, g1, g2⟩ := eqAll_at ih _ _ _ _ _ _ _ h r1 r2 v1 v2
          by_cases hl : l = l'
          · subst hl
            have e3 : x = y := rv.inj ru
            subst e3
            rw [eqN_same I S hK (n + 1) _ _ _ _ h0 ra rb]
            exact EqAt.same _
          · refine EqAt.of_refs hl ?_
            have z := RcAt.tuples (A := A) (e := e) i1 i2 (by omega) (fun j h1 h2 => by simpa using g1 j (by simpa using h1) (by simpa using h2))
            rw [g2]
            simpa using z
        · split at h
          · rename_i xs ys e1 e2
            obtain ⟨l, vs, us, rfl, i1, r1, v1⟩ := asL_at I S e1 ra rv
            obtain ⟨l', ws, zs, rfl, i2, r2, v2⟩ := asL_at I S e2 rb ru
            by_cases hl : l = l'
            · subst hl
              have e3 : x = y := rv.inj ru
              subst e3
              rw [eqN_same I S hK (n + 1) _ _ _ _ h0 ra rb]
              exact EqAt.same _
            · refine EqAt.of_refs hl ?_
              have l1 : us.length = xs.length := by rw [← v1.length, r1.len]
              have l2 : zs.length = ys.length := by rw [← v2.length, r2.len]
              by_cases hlen : xs.length = ys.length
              · rw [if_pos hlen] at h
                obtain ⟨e, g1, g2⟩ := eqAll_at ih _ _ _ _ _ _ _ h r1 r2 v1 v2
                have hsz : us.length = zs.length := by omega
                have z := RcAt.lists (A := A) (e := e) i1 i2 (by simpa using hsz) (by omega) (fun j h1 h2 => by simpa using g1 j (by simpa using h1) (by simpa using h2))
                rw [g2, range_min hsz]
                simpa using z
              · rw [if_neg hlen] at h
                cases h
                exact RcAt.lists_lengths i1 i2 (by simp; omega) (by omega)
          · split at h
            · rename_i i j e1 e2
              split at h
              · cases h
              · rename_i hn
                cases h
                refine VS.ne (by omega) (kd_vs I S hK e1 ra rv) (kd_vs I S hK e2 rb ru) hn ?_ ?_
                · rintro ⟨rfl, rfl⟩
                  obtain ⟨i, hi⟩ := kd_num e1 (.inl rfl)
                  obtain ⟨j, hj⟩ := kd_num e2 (.inr rfl)
                  exact hnum _ _ hi hj
                · rintro ⟨rfl, rfl⟩
                  obtain ⟨i, hi⟩ := kd_num e1 (.inr rfl)
                  obtain ⟨j, hj⟩ := kd_num e2 (.inl rfl)
                  exact hnum _ _ hi hj
            · cases h
end
end Bk

namespace Bk
open L2 PyProof.Rows PySem.Spec PySem

/-! ## ==, != as operators (dicts too) -/
section
open SeqAt
theorem VS.rc {A : Around} {s : Shared} {v u : Value} {i j : Nat} (hu : A.units < cLine) : VS s v i → VS s u j → i ≠ j → ¬ (i = 1 ∧ j = 2) → ¬ (i = 2 ∧ j = 1) → RcAt A s v u false
  | .non, .non, hn, _, _ => absurd rfl hn
  | .non, .bl b2, _, _, _ => RcAt.none_bool b2
  | .non, .int i2 t2, _, _, _ => RcAt.none_int i2 t2
  | .non, .str x2 t2, _, _, _ => RcAt.none_str x2 t2
  | .non, .lst h2, _, _, _ => RcAt.none_list h2 hu
  | .non, .tup h2, _, _, _ => RcAt.none_tuple h2 hu
  | .bl b, .non, _, _, _ => RcAt.bool_none b
  | .bl b, .bl b2, hn, _, _ => absurd rfl hn
  | .bl b, .int i2 t2, _, h1, _ => absurd ⟨rfl, rfl⟩ h1
  | .bl b, .str x2 t2, _, _, _ => RcAt.bool_str b x2 t2
  | .bl b, .lst h2, _, _, _ => RcAt.bool_list b h2 hu
  | .bl b, .tup h2, _, _, _ => RcAt.bool_tuple b h2 hu
  | .int i t, .non, _, _, _ => RcAt.int_none i t
  | .int i t, .bl b2, _, _, h2 => absurd ⟨rfl, rfl⟩ h2
  | .int i t, .int i2 t2, hn, _, _ => absurd rfl hn
  | .int i t, .str x2 t2, _, _, _ => RcAt.int_str i t x2 t2
  | .int i t, .lst h2, _, _, _ => RcAt.int_list i t h2 hu
  | .int i t, .tup h2, _, _, _ => RcAt.int_tuple i t h2 hu
  | .str x t, .non, _, _, _ => RcAt.str_none x t
  | .str x t, .bl b2, _, _, _ => RcAt.str_bool x t b2
  | .str x t, .int i2 t2, _, _, _ => RcAt.str_int x t i2 t2
  | .str x t, .str x2 t2, hn, _, _ => absurd rfl hn
  | .str x t, .lst h2, _, _, _ => RcAt.str_list x t h2 hu
  | .str x t, .tup h2, _, _, _ => RcAt.str_tuple x t h2 hu
  | .lst h, .non, _, _, _ => RcAt.list_none h hu
  | .lst h, .bl b2, _, _, _ => RcAt.list_bool b2 h hu
  | .lst h, .int i2 t2, _, _, _ => RcAt.list_int i2 t2 h hu
  | .lst h, .str x2 t2, _, _, _ => RcAt.list_str x2 t2 h hu
  | .lst h, .lst h2, hn, _, _ => absurd rfl hn
  | .lst h, .tup h2, _, _, _ => RcAt.list_tuple h h2 hu
  | .tup h, .non, _, _, _ => RcAt.tuple_none h hu
  | .tup h, .bl b2, _, _, _ => RcAt.tuple_bool b2 h hu
  | .tup h, .int i2 t2, _, _, _ => RcAt.tuple_int i2 t2 h hu
  | .tup h, .str x2 t2, _, _, _ => RcAt.tuple_str x2 t2 h hu
  | .tup h, .lst h2, _, _, _ => RcAt.tuple_list h h2 hu
  | .tup h, .tup h2, hn, _, _ => absurd rfl hn
theorem VS.rcne {A : Around} {s : Shared} {v u : Value} {i j : Nat} (hu : A.units < cLine) : VS s v i → VS s u j → i ≠ j → ¬ (i = 1 ∧ j = 2) → ¬ (i = 2 ∧ j = 1) → RcNeAt A s v u true
  | .non, .non, hn, _, _ => absurd rfl hn
  | .non, .bl b2, _, _, _ => RcNeAt.none_bool b2
  | .non, .int i2 t2, _, _, _ => RcNeAt.none_int i2 t2
  | .non, .str x2 t2, _, _, _ => RcNeAt.none_str x2 t2
  | .non, .lst h2, _, _, _ => RcNeAt.none_list h2 hu
  | .non, .tup h2, _, _, _ => RcNeAt.none_tuple h2 hu
  | .bl b, .non, _, _, _ => RcNeAt.bool_none b
  | .bl b, .bl b2, hn, _, _ => absurd rfl hn
  | .bl b, .int i2 t2, _, h1, _ => absurd ⟨rfl, rfl⟩ h1
  | .bl b, .str x2 t2, _, _, _ => RcNeAt.bool_str b x2 t2
  | .bl b, .lst h2, _, _, _ => RcNeAt.bool_list b h2 hu
  | .bl b, .tup h2, _, _, _ => RcNeAt.bool_tuple b h2 hu
  | .int i t, .non, _, _, _ => RcNeAt.int_none i t
  | .int i t, .bl b2, _, _, h2 => absurd ⟨rfl, rfl⟩ h2
  | .int i t, .int i2 t2, hn, _, _ => absurd rfl hn
  | .int i t, .str x2 t2, _, _, _ => RcNeAt.int_str i t x2 t2
  | .int i t, .lst h2, _, _, _ => RcNeAt.int_list i t h2 hu
  | .int i t, .tup h2, _, _, _ => RcNeAt.int_tuple i t h2 hu
  | .str x t, .non, _, _, _ => RcNeAt.str_none x t
  | .str x t, .bl b2, _, _, _ => RcNeAt.str_bool x t b2
  | .str x t, .int i2 t2, _, _, _ => RcNeAt.str_int x t i2 t2
  | .str x t, .str x2 t2, hn, _, _ => absurd rfl hn
  | .str x t, .lst h2, _, _, _ => RcNeAt.str_list x t h2 hu
  | .str x t, .tup h2, _, _, _ => RcNeAt.str_tuple x t h2 hu
  | .lst h, .non, _, _, _ => RcNeAt.list_none h hu
  | .lst h, .bl b2, _, _, _ => RcNeAt.list_bool b2 h hu
  | .lst h, .int i2 t2, _, _, _ => RcNeAt.list_int i2 t2 h hu
  | .lst h, .str x2 t2, _, _, _ => RcNeAt.list_str x2 t2 h hu
  | .lst h, .lst h2, hn, _, _ => absurd rfl hn
  | .lst h, .tup h2, _, _, _ => RcNeAt.list_tuple h h2 hu
  | .tup h, .non, _, _, _ => RcNeAt.tuple_none h hu
  | .tup h, .bl b2, _, _, _ => RcNeAt.tuple_bool b2 h hu
  | .tup h, .int i2 t2, _, _, _ => RcNeAt.tuple_int i2 t2 h hu
  | .tup h, .str x2 t2, _, _, _ => RcNeAt.tuple_str x2 t2 h hu
  | .tup h, .lst h2, _, _, _ => RcNeAt.tuple_list h h2 hu
  | .tup h, .tup h2, hn, _, _ => absurd rfl hn
theorem num_rc {A : Around} {s : Shared} {v u : Value} {i j : Int} (h : (∃ b : Bool, v = .bool b ∧ i = if b then 1 else 0) ∨ ∃ t, v = .int i t) (k : (∃ b : Bool, u = .bool b ∧ j = if b then 1 else 0) ∨ ∃ t, u = .int j t) : RcAt A s v u ((i == j)) := by
  rcases h with ⟨b, rfl, rfl⟩ | ⟨t, rfl⟩
  · rcases k with ⟨c, rfl, rfl⟩ | ⟨t', rfl⟩
    · have e : (((if b = true then 1 else 0 : Int)) == (if c = true then 1 else 0)) = (b == c) := by cases b <;> cases c <;> rfl
      rw [e]
      exact RcAt.bool_bool b c
    · exact RcAt.bool_int b j t'
  · rcases k with ⟨c, rfl, rfl⟩ | ⟨t', rfl⟩
    · exact RcAt.int_bool i t c
    · exact RcAt.int_int i t j t'
theorem num_rcne {A : Around} {s : Shared} {v u : Value} {i j : Int} (h : (∃ b : Bool, v = .bool b ∧ i = if b then 1 else 0) ∨ ∃ t, v = .int i t) (k : (∃ b : Bool, u = .bool b ∧ j = if b then 1 else 0) ∨ ∃ t, u = .int j t) : RcNeAt A s v u (!(i == j)) := by
  rcases h with ⟨b, rfl, rfl⟩ | ⟨t, rfl⟩
  · rcases k with ⟨c, rfl, rfl⟩ | ⟨t', rfl⟩
    · have e : (((if b = true then 1 else 0 : Int)) == (if c = true then 1 else 0)) = (b == c) := by cases b <;> cases c <;> rfl
      rw [e]
      exact RcNeAt.bool_bool b c
    · exact RcNeAt.bool_int b j t'
  · rcases k with ⟨c, rfl, rfl⟩ | ⟨t', rfl⟩
    · exact RcNeAt.int_bool i t c
    · exact RcNeAt.int_int i t j t'

variable {X : Cx} {pins : List (Addr × Obj)} {σ : Sl} {H : Hp} {s : Shared} {G : Gl0} {μ : List Addr} {st : Store}
theorem eqN_rc (I : Inv X pins σ H s) (S : Sim G μ st H) (hK : G.K = X.K) (n : Nat) (a b : D) (r : Bool) (x y : V) (v u : Value) (h : eqN st (n + 1) a b = some r) (ra : Rep G μ H a x) (rb : Rep G μ H b y) (rv : RelV x v) (ru : RelV y u) (A : Around) (hu : A.units + (n + 1) < cLine) : RcAt A s v u (r) := by
  have hu1 : A.in1.units + n < cLine := by show A.units + 1 + n < cLine; omega
  have ih := fun a b r x y v u h ra rb rv ru => eqN_at I S hK n a b r x y v u h ra rb rv ru A.in1 hu1
  unfold eqN at h
  split at h
  · rename_i i j e1 e2
    cases h
    exact num_rc (num_at e1 ra rv) (num_at e2 rb ru)
  · rename_i hnum
    split at h
    · cases h; cases ra; cases rb; cases rv; cases ru; exact RcAt.none_none
    · cases h; cases ra; cases rb; obtain ⟨t, rfl⟩ := rv; obtain ⟨t', rfl⟩ := ru; exact RcAt.str_str _ _ _ _
    · split at h
      · rename_i xs ys e1 e2
        obtain ⟨l, vs, us, rfl, i1, r1, v1⟩ := tup_at I hK e1 ra rv
        obtain ⟨l', ws, zs, rfl, i2, r2, v2⟩ := tup_at I hK e2 rb ru
        obtain ⟨e, g1, g2⟩ := eqAll_at ih _ _ _ _ _ _ _ h r1 r2 v1 v2
        have z := RcAt.tuples (A := A) (e := e) i1 i2 (by omega) (fun j h1 h2 => by simpa using g1 j (by simpa using h1) (by simpa using h2))
        rw [g2]
        simpa using z
      · split at h
        · rename_i xs ys e1 e2
          obtain ⟨l, vs, us, rfl, i1, r1, v1⟩ := asL_at I S e1 ra rv
          obtain ⟨l', ws, zs, rfl, i2, r2, v2⟩ := asL_at I S e2 rb ru
          have l1 : us.length = xs.length := by rw [← v1.length, r1.len]
          have l2 : zs.length = ys.length := by rw [← v2.length, r2.len]
          by_cases hlen : xs.length = ys.length
          · rw [if_pos hlen] at h
            obtain ⟨e, g1, g2⟩ := eqAll_at ih _ _ _ _ _ _ _ h r1 r2 v1 v2
            have hsz : us.length = zs.length := by omega
            have z := RcAt.lists (A := A) (e := e) i1 i2 (by simpa using hsz) (by omega) (fun j h1 h2 => by simpa using g1 j (by simpa using h1) (by simpa using h2))
            rw [g2, range_min hsz]
            simpa using z
          · rw [if_neg hlen] at h
            cases h
            exact RcAt.lists_lengths i1 i2 (by simp; omega) (by omega)
        · split at h
          · rename_i i j e1 e2
            split at h
            · cases h
            · rename_i hn
              cases h
              refine VS.rc (by omega) (kd_vs I S hK e1 ra rv) (kd_vs I S hK e2 rb ru) hn ?_ ?_
              · rintro ⟨rfl, rfl⟩
                obtain ⟨i, hi⟩ := kd_num e1 (.inl rfl)
                obtain ⟨j, hj⟩ := kd_num e2 (.inr rfl)
                exact hnum _ _ hi hj
              · rintro ⟨rfl, rfl⟩
                obtain ⟨i, hi⟩ := kd_num e1 (.inr rfl)
                obtain ⟨j, hj⟩ := kd_num e2 (.inl rfl)
                exact hnum _ _ hi hj
          · cases h
theorem eqN_rcne (I : Inv X pins σ H s) (S : Sim G μ st H) (hK : G.K = X.K) (n : Nat) (a b : D) (r : Bool) (x y : V) (v u : Value) (h : eqN st (n + 1) a b = some r) (ra : Rep G μ H a x) (rb : Rep G μ H b y) (rv : RelV x v) (ru : RelV y u) (A : Around) (hu : A.units + (n + 1) < cLine) : RcNeAt A s v u (!r) := by
  have hu1 : A.in1.units + n < cLine := by show A.units + 1 + n < cLine; omega
  have ih := fun a b r x y v u h ra rb rv ru => eqN_at I S hK n a b r x y v u h ra rb rv ru A.in1 hu1
  unfold eqN at h
  split at h
  · rename_i i j e1 e2
    cases h
    exact num_rcne (num_at e1 ra rv) (num_at e2 rb ru)
  · rename_i hnum
    split at h
    · cases h; cases ra; cases rb; cases rv; cases ru; exact RcNeAt.none_none
    · cases h; cases ra; cases rb; obtain ⟨t, rfl⟩ := rv; obtain ⟨t', rfl⟩ := ru; exact RcNeAt.str_str _ _ _ _
    · split at h
      · rename_i xs ys e1 e2
        obtain ⟨l, vs, us, rfl, i1, r1, v1⟩ := tup_at I hK e1 ra rv
        obtain ⟨l', ws, zs, rfl, i2, r2, v2⟩ := tup_at I hK e2 rb ru
        obtain ⟨e, g1, g2⟩ := eqAll_at ih _ _ _ _ _ _ _ h r1 r2 v1 v2
        have z := RcNeAt.tuples (A := A) (e := e) i1 i2 (by omega) (fun j h1 h2 => by simpa using g1 j (by simpa using h1) (by simpa using h2))
        rw [g2]
        simpa using z
      · split at h
        · rename_i xs ys e1 e2
          obtain ⟨l, vs, us, rfl, i1, r1, v1⟩ := asL_at I S e1 ra rv
          obtain ⟨l', ws, zs, rfl, i2, r2, v2⟩ := asL_at I S e2 rb ru
          have l1 : us.length = xs.length := by rw [← v1.length, r1.len]
          have l2 : zs.length = ys.length := by rw [← v2.length, r2.len]
          by_cases hlen : xs.length = ys.length
          · rw [if_pos hlen] at h
            obtain ⟨e, g1, g2⟩ := eqAll_at ih _ _ _ _ _ _ _ h r1 r2 v1 v2
            have hsz : us.length = zs.length := by omega
            have z := RcNeAt.lists (A := A) (e := e) i1 i2 (by simpa using hsz) (by omega) (fun j h1 h2 => by simpa using g1 j (by simpa using h1) (by simpa using h2))
            rw [g2, range_min hsz]
            simpa using z
          · rw [if_neg hlen] at h
            cases h
            exact RcNeAt.lists_lengths i1 i2 (by simp; omega) (by omega)
        · split at h
          · rename_i i j e1 e2
            split at h
            · cases h
            · rename_i hn
              cases h
              refine VS.rcne (by omega) (kd_vs I S hK e1 ra rv) (kd_vs I S hK e2 rb ru) hn ?_ ?_
              · rintro ⟨rfl, rfl⟩
                obtain ⟨i, hi⟩ := kd_num e1 (.inl rfl)
                obtain ⟨j, hj⟩ := kd_num e2 (.inr rfl)
                exact hnum _ _ hi hj
              · rintro ⟨rfl, rfl⟩
                obtain ⟨i, hi⟩ := kd_num e1 (.inr rfl)
                obtain ⟨j, hj⟩ := kd_num e2 (.inl rfl)
                exact hnum _ _ hi hj
          · cases h
end
def asK (st : Store) : D → Option (List (Key × D))
  | .dK kvs => some kvs
  | .ref l => match st[l]? with
    | some (.dK _ kvs) => some kvs
    | _ => none
  | _ => none
def look {κ : Type} [DecidableEq κ] (kvs : List (κ × D)) (k : κ) : Option D := (kvs.find? fun kv => decide (kv.1 = k)).map (·.2)
def hitsN (st : Store) (kb : List (Key × D)) : List (Key × D) → Option Bool
  | [] => some true
  | (k, v) :: r => match look kb k with
    | none => some false
    | some y => (eqN st 58 v y).bind fun e => (hitsN st kb r).map fun c => e && c
def dictEq (st : Store) (ka kb : List (Key × D)) : Option Bool := if ka.length = kb.length then hitsN st kb ka else some false
def dEqv (st : Store) (a b : D) : Option Bool := match asK st a, asK st b with
  | some ka, some kb => dictEq st ka kb
  | _, _ => eqN st 60 a b
section
variable {X : Cx} {pins : List (Addr × Obj)} {σ : Sl} {H : Hp} {s : Shared} {G : Gl0} {μ : List Addr} {st : Store}
theorem RepP.len {ds : List (Key × D)} {vs : List (Key × V)} (h : RepP G μ H ds vs) : ds.length = vs.length := by
  induction ds generalizing vs with
  | nil => cases h; rfl
  | cons d ds ih =>
    cases h with
    | cons _ h => rw [List.length_cons, List.length_cons, ih h]
theorem RepP.look {ds : List (Key × D)} {vs : List (Key × V)} (h : RepP G μ H ds vs) (k : Key) : (look ds k = none ∧ valV vs k = none) ∨ ∃ d v, look ds k = some d ∧ valV vs k = some v ∧ Rep G μ H d v := by
  induction ds generalizing vs with
  | nil => cases h; exact .inl ⟨rfl, rfl⟩
  | cons d ds ih =>
    cases h with
    | @cons k' d v ds vs h1 h2 =>
      by_cases e : k' = k
      · exact .inr ⟨d, v, by simp [Bk.look, e], by simp [valV, e], h1⟩
      · rcases ih h2 with ⟨q1, q2⟩ | ⟨d', v', q1, q2, q3⟩
        · exact .inl ⟨by simpa [Bk.look, e] using q1, by simpa [valV, e] using q2⟩
        · exact .inr ⟨d', v', by simpa [Bk.look, e] using q1, by simpa [valV, e] using q2, q3⟩
theorem asK_rep {a : D} {x : V} {ds : List (Key × D)} (S : Sim G μ st H) (e : asK st a = some ds) (r : Rep G μ H a x) : ∃ p vs, x = .ref p ∧ Rd H p (.dK vs) ∧ RepP G μ H ds vs := by
  unfold asK at e
  split at e
  · cases e
    cases r with
    | dK h0 h1 h2 => exact ⟨_, _, rfl, h1, h2⟩
  · rename_i l
    split at e
    · rename_i lk ds' h
      cases e
      cases r with
      | ref h0 =>
        obtain ⟨vs, e1, e2, e3⟩ := S.obj _ _ _ h h0
        cases lk with
        | false => exact ⟨_, vs, rfl, .inl (e1 rfl), e3⟩
        | true => exact ⟨_, vs, rfl, .inr (e2 rfl), e3⟩
    · cases e
  · cases e
theorem hitsN_at (I : Inv X pins σ H s) (S : Sim G μ st H) (hK : G.K = X.K) {A : Around} (hu : A.units + 58 < cLine) {kb : List (Key × D)} {vb : List (Key × V)} {ub : List (Key × Value)} (rb : RepP G μ H kb vb) (qb : KV vb ub) :
    ∀ (ka : List (Key × D)) (va : List (Key × V)) (ua : List (Key × Value)) (r : Bool), hitsN st kb ka = some r → RepP G μ H ka va → KV va ua → PySem.W.KeqHits A s ub ua r
  | [], _, _, _, h, r1, v1 => by
    cases r1; unfold KV at v1; cases v1; cases h; exact .nil
  | (k, d) :: ka, _, _, r, h, r1, v1 => by
    cases r1 with
    | cons a1 a2 =>
      unfold KV at v1
      cases v1 with
      | @cons p q ps qs c1 c2 =>
        obtain ⟨key, u⟩ := q
        obtain ⟨c3, c4⟩ := c1
        have c3 : k = key := c3
        subst c3
        have ro := qb.val k
        unfold hitsN at h
        rcases rb.look k with ⟨q1, q2⟩ | ⟨d', v', q1, q2, q3⟩
        · rw [q1] at h
          cases h
          rw [q2] at ro
          refine .miss ?_
          cases e : valueAt ub k with
          | none => rfl
          | some _ => rw [e] at ro; exact ro.elim
        · rw [q1] at h
          rw [q2] at ro
          obtain ⟨u', e1, e2⟩ := ro.some_of
          simp only at h
          cases e : eqN st 58 d d' with
          | none => rw [e] at h; cases h
          | some c =>
            rw [e] at h
            cases e' : hitsN st kb ka with
            | none => rw [e'] at h; cases h
            | some c' =>
              rw [e'] at h
              cases h
              exact .hit e1 (eqN_at I S hK 58 _ _ _ _ _ _ _ e a1 q3 c4 e2 A hu) (hitsN_at I S hK hu rb qb ka _ _ _ e' a2 c2)
def rEqX (G : Gl0) (neg : Bool) : R2 := fun x y H Q => ∃ μ st a b r, Sim G μ st H ∧ Rep G μ H a x ∧ Rep G μ H b y ∧ dEqv st a b = some r ∧ Q (.bl (if neg then !r else r)) H
theorem op_eqX (hK : G.K = X.K) (hu : X.A.units + 64 < cLine) : OpR X (compareOp .Eq) (rEqX G false) := by
  intro pins s σ H x y v u Q I rx ry h
  obtain ⟨μ, st, a, b, r, S, ra, rb, e, q⟩ := h
  have done : EP X pins σ Q (.bool r) s := ⟨.bl r, H, I, rfl, q⟩
  unfold dEqv at e
  split at e
  · rename_i ka kb e1 e2
    obtain ⟨p, va, rfl, h1, h2⟩ := asK_rep S e1 ra
    obtain ⟨p', vb, rfl, h3, h4⟩ := asK_rep S e2 rb
    cases rx; cases ry
    obtain ⟨_, y1, ua, k1, d1⟩ := dk_rd I.hok h1
    obtain ⟨_, y2, ub, k2, d2⟩ := dk_rd I.hok h3
    have l1 : ka.length = ua.length := by rw [h2.len]; exact Paired.length k1
    have l2 : kb.length = ub.length := by rw [h4.len]; exact Paired.length k2
    unfold dictEq at e
    by_cases hl : ka.length = kb.length
    · rw [if_pos hl] at e
      refine PySem.W.keq_eq (r := r) y1 y2 d1 d2 (by omega) (fun _ => hitsN_at I S hK (by show X.A.units + 1 + 58 < cLine; omega) h4 k2 ka va ua r e h2 k1) ?_
      rw [show (ua.length == ub.length) = true from by simp; omega, Bool.true_and]
      exact done
    · rw [if_neg hl] at e
      cases e
      refine PySem.W.keq_eq (r := false) y1 y2 d1 d2 (by omega) (fun z => absurd (by omega) hl) ?_
      rw [Bool.and_false]
      exact done
  · exact eqN_rc I S hK 59 a b r x y v u e ra rb rx ry X.A (by omega) _ _ _ _ done
theorem op_neX (hK : G.K = X.K) (hu : X.A.units + 64 < cLine) : OpR X (compareOp .NotEq) (rEqX G true) := by
  intro pins s σ H x y v u Q I rx ry h
  obtain ⟨μ, st, a, b, r, S, ra, rb, e, q⟩ := h
  have done : EP X pins σ Q (.bool !r) s := ⟨.bl !r, H, I, rfl, q⟩
  unfold dEqv at e
  split at e
  · rename_i ka kb e1 e2
    obtain ⟨p, va, rfl, h1, h2⟩ := asK_rep S e1 ra
    obtain ⟨p', vb, rfl, h3, h4⟩ := asK_rep S e2 rb
    cases rx; cases ry
    obtain ⟨_, y1, ua, k1, d1⟩ := dk_rd I.hok h1
    obtain ⟨_, y2, ub, k2, d2⟩ := dk_rd I.hok h3
    have l1 : ka.length = ua.length := by rw [h2.len]; exact Paired.length k1
    have l2 : kb.length = ub.length := by rw [h4.len]; exact Paired.length k2
    unfold dictEq at e
    by_cases hl : ka.length = kb.length
    · rw [if_pos hl] at e
      refine PySem.W.keq_ne (r := r) y1 y2 d1 d2 (by omega) (fun _ => hitsN_at I S hK (by show X.A.units + 1 + 58 < cLine; omega) h4 k2 ka va ua r e h2 k1) ?_
      rw [show (ua.length == ub.length) = true from by simp; omega, Bool.true_and]
      exact done
    · rw [if_neg hl] at e
      cases e
      refine PySem.W.keq_ne (r := false) y1 y2 d1 d2 (by omega) (fun z => absurd (by omega) hl) ?_
      rw [Bool.and_false]
      exact done
  · exact eqN_rcne I S hK 59 a b r x y v u e ra rb rx ry X.A (by omega) _ _ _ _ done
def dEq (a b : D) (st : Store) : R D := match dEqv st a b with
  | some r => .ok (.bl r) st
  | none => .stuck
def dNe (a b : D) (st : Store) : R D := match dEqv st a b with
  | some r => .ok (.bl (!r)) st
  | none => .stuck
theorem d_eq : OpD G dEq (rEqX G false) := by
  intro W μ ρ st σ H a b x y Q q ra rb
  unfold dEq at q
  split at q
  · rename_i r e
    exact ⟨μ, st, a, b, r, q.sim, ra, rb, e, q.val (.bl _)⟩
  · exact q.post.elim
theorem d_ne : OpD G dNe (rEqX G true) := by
  intro W μ ρ st σ H a b x y Q q ra rb
  unfold dNe at q
  split at q
  · rename_i r e
    exact ⟨μ, st, a, b, r, q.sim, ra, rb, e, q.val (.bl _)⟩
  · exact q.post.elim
end
end Bk

namespace Bk
open L2 PyProof.Rows PySem.Spec PySem Ob

/-! ## <, <=, >, >= of deep values: ints, texts, tuples of such -/
def cmpI : CmpOp → Int → Int → Bool
  | .Lt, i, j => decide (i < j)
  | .LtE, i, j => decide (i ≤ j)
  | .Gt, i, j => decide (j < i)
  | .GtE, i, j => decide (j ≤ i)
  | _, _, _ => false
def cmpS : CmpOp → List Nat → List Nat → Bool
  | .Lt, i, j => decide (i < j)
  | .LtE, i, j => !decide (j < i)
  | .Gt, i, j => decide (j < i)
  | .GtE, i, j => !decide (i < j)
  | _, _, _ => false
def cmpN : CmpOp → Nat → Nat → Bool
  | .Lt, i, j => decide (i < j)
  | .LtE, i, j => decide (i ≤ j)
  | .Gt, i, j => decide (i > j)
  | .GtE, i, j => decide (i ≥ j)
  | _, _, _ => false
def lexN (f g : D → D → Option Bool) (z : Bool) : List D → List D → Option Bool
  | x :: xs, y :: ys => (f x y).bind fun c => (lexN f g z xs ys).bind fun rest => if c then some rest else g x y
  | [], [] => some z
  | [], _ :: _ => some z
  | _ :: _, [] => some z
def ordN (st : Store) (o : CmpOp) : Nat → D → D → Option Bool
  | 0, _, _ => none
  | n + 1, a, b => match a, b with
    | .int i, .int j => some (cmpI o i j)
    | .str x, .str y => some (cmpS o x.cps.toList y.cps.toList)
    | .tup xs, .tup ys => lexN (eqN st n) (ordN st o n) (cmpN o xs.length ys.length) xs ys
    | _, _ => none
theorem lexAt_shift {e r : Nat → Bool} {z : Bool} : ∀ (k i : Nat), lexAt (fun j => e (j + 1)) (fun j => r (j + 1)) z i k = lexAt e r z (i + 1) k
  | 0, _ => rfl
  | k + 1, i => by
    rw [lexAt_succ, lexAt_succ, lexAt_shift k (i + 1)]
section
variable {X : Cx} {pins : List (Addr × Obj)} {σ : Sl} {H : Hp} {s : Shared} {G : Gl0} {μ : List Addr} {st : Store}
theorem lexN_at {o : CmpOp} {A : Around} {f g : D → D → Option Bool} {z : Bool} (hf : ∀ a b r x y v u, f a b = some r → Rep G μ H a x → Rep G μ H b y → RelV x v → RelV y u → SeqAt.EqAt A s v u r)
    (hg : ∀ a b r x y v u, g a b = some r → Rep G μ H a x → Rep G μ H b y → RelV x v → RelV y u → RcOp o A s v u r) :
    ∀ (xs ys : List D) (r : Bool) (vs ws : List V) (us zs : List Value), lexN f g z xs ys = some r → RepL G μ H xs vs → RepL G μ H ys ws → Vals vs us → Vals ws zs →
      ∃ e q : Nat → Bool, (∀ j (h1 : j < us.length) (h2 : j < zs.length), SeqAt.EqAt A s us[j] zs[j] (e j)) ∧ (∀ j (h1 : j < us.length) (h2 : j < zs.length), e j = false → RcOp o A s us[j] zs[j] (q j)) ∧
        r = lexAt e q z 0 (min us.length zs.length)
  | [], [], r, vs, ws, us, zs, h, r1, r2, v1, v2 => by
    cases r1; cases v1; cases h
    exact ⟨fun _ => true, fun _ => true, fun j h1 _ => absurd h1 (Nat.not_lt_zero j), fun j h1 _ => absurd h1 (Nat.not_lt_zero j), by simp [lexAt]⟩
  | [], _ :: _, r, vs, ws, us, zs, h, r1, r2, v1, v2 => by
    cases r1; cases v1; cases h
    exact ⟨fun _ => true, fun _ => true, fun j h1 _ => absurd h1 (Nat.not_lt_zero j), fun j h1 _ => absurd h1 (Nat.not_lt_zero j), by simp [lexAt]⟩
  | _ :: _, [], r, vs, ws, us, zs, h, r1, r2, v1, v2 => by
    cases r2; cases v2; cases h
    exact ⟨fun _ => true, fun _ => true, fun j _ h1 => absurd h1 (Nat.not_lt_zero j), fun j _ h1 => absurd h1 (Nat.not_lt_zero j), by simp [lexAt]⟩
  | x :: xs, y :: ys, r, vs, ws, us, zs, h, r1, r2, v1, v2 => by
    cases r1 with
    | cons a1 a2 =>
      cases r2 with
      | cons b1 b2 =>
        cases v1 with
        | cons c1 c2 =>
          cases v2 with
          | cons d1 d2 =>
            rename_i us zs
            unfold lexN at h
            cases q : f x y with
            | none => rw [q] at h; cases h
            | some b =>
              rw [q] at h
              cases q2 : lexN f g z xs ys with
              | none => rw [q2] at h; cases h
              | some c =>
                rw [q2] at h
                simp only [Option.bind_some] at h
                have e1 := hf _ _ _ _ _ _ _ q a1 b1 c1 d1
                obtain ⟨e, p, g1, g2, g3⟩ := lexN_at hf hg xs ys c _ _ _ _ q2 a2 b2 c2 d2
                cases b with
                | true =>
                  simp only [if_true] at h
                  cases h
                  refine ⟨fun j => match j with | 0 => true | j + 1 => e j, fun j => match j with | 0 => true | j + 1 => p j, fun j h1 h2 => ?_, fun j h1 h2 h3 => ?_, ?_⟩
                  · cases j with
                    | zero => exact e1
                    | succ j => exact g1 j (Nat.lt_of_succ_lt_succ h1) (Nat.lt_of_succ_lt_succ h2)
                  · cases j with
                    | zero => cases h3
                    | succ j => exact g2 j (Nat.lt_of_succ_lt_succ h1) (Nat.lt_of_succ_lt_succ h2) h3
                  · rw [g3, List.length_cons, List.length_cons, Nat.succ_min_succ, lexAt_succ, if_pos rfl, ← lexAt_shift]
                | false =>
                  simp only [Bool.false_eq_true, if_false] at h
                  have e2 := hg _ _ _ _ _ _ _ h a1 b1 c1 d1
                  refine ⟨fun j => match j with | 0 => false | j + 1 => e j, fun j => match j with | 0 => r | j + 1 => p j, fun j h1 h2 => ?_, fun j h1 h2 h3 => ?_, ?_⟩
                  · cases j with
                    | zero => exact e1
                    | succ j => exact g1 j (Nat.lt_of_succ_lt_succ h1) (Nat.lt_of_succ_lt_succ h2)
                  · cases j with
                    | zero => exact e2
                    | succ j => exact g2 j (Nat.lt_of_succ_lt_succ h1) (Nat.lt_of_succ_lt_succ h2) h3
                  · rw [List.length_cons, List.length_cons, Nat.succ_min_succ, lexAt_succ, if_neg Bool.false_ne_true]
theorem ordN_lt (I : Inv X pins σ H s) (S : Sim G μ st H) (hK : G.K = X.K) : ∀ (n : Nat) (a b : D) (r : Bool) (x y : V) (v u : Value), ordN st .Lt n a b = some r → Rep G μ H a x → Rep G μ H b y → RelV x v → RelV y u → ∀ A : Around, A.units + n < cLine → RcOp .Lt A s v u r
  | 0, _, _, _, _, _, _, _, h, _, _, _, _, _, _ => by cases h
  | n + 1, a, b, r, x, y, v, u, h, ra, rb, rv, ru, A, hu => by
    have hu1 : A.in1.units + n < cLine := by show A.units + 1 + n < cLine; omega
    unfold ordN at h
    split at h
    · cases h; cases ra; cases rb; obtain ⟨t, rfl⟩ := rv; obtain ⟨t', rfl⟩ := ru; exact RcOp.lt_int _ _ _ _
    · cases h; cases ra; cases rb; obtain ⟨t, rfl⟩ := rv; obtain ⟨t', rfl⟩ := ru; exact fun _ _ _ _ h => PySem.P.lt_str h
    · obtain ⟨l, vs, us, rfl, i1, r1, v1⟩ := tup_at I hK rfl ra rv
      obtain ⟨l', ws, zs, rfl, i2, r2, v2⟩ := tup_at I hK rfl rb ru
      obtain ⟨e, q, g1, g2, g3⟩ := lexN_at (fun a b r x y v u h ra rb rv ru => eqN_at I S hK n a b r x y v u h ra rb rv ru A.in1 hu1) (fun a b r x y v u h ra rb rv ru => ordN_lt I S hK n a b r x y v u h ra rb rv ru A.in1 hu1) _ _ _ _ _ _ _ h r1 r2 v1 v2
      have l1 := r1.len
      have l2 := r2.len
      have l3 := v1.length
      have l4 := v2.length
      have z := RcOp.tuples_lt (A := A) (e := e) (r := q) i1 i2 (by omega) (fun j h1 h2 => by simpa using g1 j (by simpa using h1) (by simpa using h2)) (fun j h1 h2 h3 => by simpa using g2 j (by simpa using h1) (by simpa using h2) h3)
      rw [g3, l1, l2, l3, l4]
      simpa [cmpN] using z
    · cases h
theorem ordN_le (I : Inv X pins σ H s) (S : Sim G μ st H) (hK : G.K = X.K) : ∀ (n : Nat) (a b : D) (r : Bool) (x y : V) (v u : Value), ordN st .LtE n a b = some r → Rep G μ H a x → Rep G μ H b y → RelV x v → RelV y u → ∀ A : Around, A.units + n < cLine → RcOp .LtE A s v u r
  | 0, _, _, _, _, _, _, _, h, _, _, _, _, _, _ => by cases h
  | n + 1, a, b, r, x, y, v, u, h, ra, rb, rv, ru, A, hu => by
    have hu1 : A.in1.units + n < cLine := by show A.units + 1 + n < cLine; omega
    unfold ordN at h
    split at h
    · cases h; cases ra; cases rb; obtain ⟨t, rfl⟩ := rv; obtain ⟨t', rfl⟩ := ru; exact RcOp.le_int _ _ _ _
    · cases h; cases ra; cases rb; obtain ⟨t, rfl⟩ := rv; obtain ⟨t', rfl⟩ := ru; exact fun _ _ _ _ h => PySem.P.le_str h
    · obtain ⟨l, vs, us, rfl, i1, r1, v1⟩ := tup_at I hK rfl ra rv
      obtain ⟨l', ws, zs, rfl, i2, r2, v2⟩ := tup_at I hK rfl rb ru
      obtain ⟨e, q, g1, g2, g3⟩ := lexN_at (fun a b r x y v u h ra rb rv ru => eqN_at I S hK n a b r x y v u h ra rb rv ru A.in1 hu1) (fun a b r x y v u h ra rb rv ru => ordN_le I S hK n a b r x y v u h ra rb rv ru A.in1 hu1) _ _ _ _ _ _ _ h r1 r2 v1 v2
      have l1 := r1.len
      have l2 := r2.len
      have l3 := v1.length
      have l4 := v2.length
      have z := RcOp.tuples_le (A := A) (e := e) (r := q) i1 i2 (by omega) (fun j h1 h2 => by simpa using g1 j (by simpa using h1) (by simpa using h2)) (fun j h1 h2 h3 => by simpa using g2 j (by simpa using h1) (by simpa using h2) h3)
      rw [g3, l1, l2, l3, l4]
      simpa [cmpN] using z
    · cases h
theorem ordN_gt (I : Inv X pins σ H s) (S : Sim G μ st H) (hK : G.K = X.K) : ∀ (n : Nat) (a b : D) (r : Bool) (x y : V) (v u : Value), ordN st .Gt n a b = some r → Rep G μ H a x → Rep G μ H b y → RelV x v → RelV y u → ∀ A : Around, A.units + n < cLine → RcOp .Gt A s v u r
  | 0, _, _, _, _, _, _, _, h, _, _, _, _, _, _ => by cases h
  | n + 1, a, b, r, x, y, v, u, h, ra, rb, rv, ru, A, hu => by
    have hu1 : A.in1.units + n < cLine := by show A.units + 1 + n < cLine; omega
    unfold ordN at h
    split at h
    · cases h; cases ra; cases rb; obtain ⟨t, rfl⟩ := rv; obtain ⟨t', rfl⟩ := ru; exact RcOp.gt_int _ _ _ _
    · cases h; cases ra; cases rb; obtain ⟨t, rfl⟩ := rv; obtain ⟨t', rfl⟩ := ru; exact fun _ _ _ _ h => PySem.P.gt_str h
    · obtain ⟨l, vs, us, rfl, i1, r1, v1⟩ := tup_at I hK rfl ra rv
      obtain ⟨l', ws, zs, rfl, i2, r2, v2⟩ := tup_at I hK rfl rb ru
      obtain ⟨e, q, g1, g2, g3⟩ := lexN_at (fun a b r x y v u h ra rb rv ru => eqN_at I S hK n a b r x y v u h ra rb rv ru A.in1 hu1) (fun a b r x y v u h ra rb rv ru => ordN_gt I S hK n a b r x y v u h ra rb rv ru A.in1 hu1) _ _ _ _ _ _ _ h r1 r2 v1 v2
      have l1 := r1.len
      have l2 := r2.len
      have l3 := v1.length
      have l4 := v2.length
      have z := RcOp.tuples_gt (A := A) (e := e) (r := q) i1 i2 (by omega) (fun j h1 h2 => by simpa using g1 j (by simpa using h1) (by simpa using h2)) (fun j h1 h2 h3 => by simpa using g2 j (by simpa using h1) (by simpa using h2) h3)
      rw [g3, l1, l2, l3, l4]
      simpa [cmpN] using z
    · cases h
theorem ordN_ge (I : Inv X pins σ H s) (S : Sim G μ st H) (hK : G.K = X.K) : ∀ (n : Nat) (a b : D) (r : Bool) (x y : V) (v u : Value), ordN st .GtE n a b = some r → Rep G μ H a x → Rep G μ H b y → RelV x v → RelV y u → ∀ A : Around, A.units + n < cLine → RcOp .GtE A s v u r
  | 0, _, _, _, _, _, _, _, h, _, _, _, _, _, _ => by cases h
  | n + 1, a, b, r, x, y, v, u, h, ra, rb, rv, ru, A, hu => by
    have hu1 : A.in1.units + n < cLine := by show A.units + 1 + n < cLine; omega
    unfold ordN at h
    split at h
    · cases h; cases ra; cases rb; obtain ⟨t, rfl⟩ := rv; obtain ⟨t', rfl⟩ := ru; exact RcOp.ge_int _ _ _ _
    · cases h; cases ra; cases rb; obtain ⟨t, rfl⟩ := rv; obtain ⟨t', rfl⟩ := ru; exact fun _ _ _ _ h => PySem.P.ge_str h
    · obtain ⟨l, vs, us, rfl, i1, r1, v1⟩ := tup_at I hK rfl ra rv
      obtain ⟨l', ws, zs, rfl, i2, r2, v2⟩ := tup_at I hK rfl rb ru
      obtain ⟨e, q, g1, g2, g3⟩ := lexN_at (fun a b r x y v u h ra rb rv ru => eqN_at I S hK n a b r x y v u h ra rb rv ru A.in1 hu1) (fun a b r x y v u h ra rb rv ru => ordN_ge I S hK n a b r x y v u h ra rb rv ru A.in1 hu1) _ _ _ _ _ _ _ h r1 r2 v1 v2
      have l1 := r1.len
      have l2 := r2.len
      have l3 := v1.length
      have l4 := v2.length
      have z := RcOp.tuples_ge (A := A) (e := e) (r := q) i1 i2 (by omega) (fun j h1 h2 => by simpa using g1 j (by simpa using h1) (by simpa using h2)) (fun j h1 h2 h3 => by simpa using g2 j (by simpa using h1) (by simpa using h2) h3)
      rw [g3, l1, l2, l3, l4]
      simpa [cmpN] using z
    · cases h
end
def rOrX (G : Gl0) (o : CmpOp) : R2 := fun x y H Q => ∃ μ st a b r, Sim G μ st H ∧ Rep G μ H a x ∧ Rep G μ H b y ∧ ordN st o 60 a b = some r ∧ Q (.bl r) H
section
variable {X : Cx} {G : Gl0}
theorem op_ltX (hK : G.K = X.K) (hu : X.A.units + 64 < cLine) : OpR X (compareOp .Lt) (rOrX G .Lt) := by
  intro pins s σ H x y v u Q I rx ry h
  obtain ⟨μ, st, a, b, r, S, ra, rb, e, q⟩ := h
  exact ordN_lt I S hK 60 a b r x y v u e ra rb rx ry X.A (by omega) _ _ _ _ ⟨.bl r, H, I, rfl, q⟩
theorem op_leX (hK : G.K = X.K) (hu : X.A.units + 64 < cLine) : OpR X (compareOp .LtE) (rOrX G .LtE) := by
  intro pins s σ H x y v u Q I rx ry h
  obtain ⟨μ, st, a, b, r, S, ra, rb, e, q⟩ := h
  exact ordN_le I S hK 60 a b r x y v u e ra rb rx ry X.A (by omega) _ _ _ _ ⟨.bl r, H, I, rfl, q⟩
theorem op_gtX (hK : G.K = X.K) (hu : X.A.units + 64 < cLine) : OpR X (compareOp .Gt) (rOrX G .Gt) := by
  intro pins s σ H x y v u Q I rx ry h
  obtain ⟨μ, st, a, b, r, S, ra, rb, e, q⟩ := h
  exact ordN_gt I S hK 60 a b r x y v u e ra rb rx ry X.A (by omega) _ _ _ _ ⟨.bl r, H, I, rfl, q⟩
theorem op_geX (hK : G.K = X.K) (hu : X.A.units + 64 < cLine) : OpR X (compareOp .GtE) (rOrX G .GtE) := by
  intro pins s σ H x y v u Q I rx ry h
  obtain ⟨μ, st, a, b, r, S, ra, rb, e, q⟩ := h
  exact ordN_ge I S hK 60 a b r x y v u e ra rb rx ry X.A (by omega) _ _ _ _ ⟨.bl r, H, I, rfl, q⟩
def dOrd (o : CmpOp) (a b : D) (st : Store) : R D := match ordN st o 60 a b with
  | some r => .ok (.bl r) st
  | none => .stuck
theorem d_ord {o : CmpOp} : OpD G (dOrd o) (rOrX G o) := by
  intro W μ ρ st σ H a b x y Q q ra rb
  unfold dOrd at q
  split at q
  · rename_i r e
    exact ⟨μ, st, a, b, r, q.sim, ra, rb, e, q.val (.bl _)⟩
  · exact q.post.elim
end
end Bk

namespace Bk
open L2 PyProof.Rows PySem.Spec PySem

/-! ## in, not in, is, subscripts -/
def keyOf : D → Option Key
  | .int i => some (.inl i)
  | .str x => some (.inr x)
  | _ => none
def keysOf' : List D → Option (List Key)
  | [] => some []
  | d :: ds => (keyOf d).bind fun k => (keysOf' ds).map fun r => k :: r
def keysOf : D → Option (List Key)
  | .tup ds => keysOf' ds
  | _ => none
def asT (st : Store) : D → Option (List (List Key × D))
  | .dT kvs => some kvs
  | .ref l => match st[l]? with
    | some (.dT _ kvs) => some kvs
    | _ => none
  | _ => none
def inAll (f : D → Option Bool) : List D → Option Bool
  | [] => some false
  | d :: ds => (f d).bind fun b => (inAll f ds).map fun c => b || c
def strIn (x z : Str) : Bool := match x.cps.toList with
  | [c] => decide (c ∈ z.cps.toList)
  | _ => !(Builtin.Str.occurrences z x 0 z.length 1).isEmpty
/-- is a in c -/
def inN (kc : Nat → List (Str × Int)) (st : Store) (a c : D) : Option Bool := match a, c with
  | .str x, .str z => some (strIn x z)
  | .str x, .kd i => if (kc i).isEmpty then none else some ((kc i).lookup x).isSome
  | _, _ => match asTup c with
    | some ds => inAll (fun d => eqN st 58 d a) ds
    | none => match asL st c with
      | some ds => inAll (fun d => eqN st 58 d a) ds
      | none => match asK st c with
        | some kvs => (keyOf a).map fun k => (look kvs k).isSome
        | none => match asT st c with
          | some kvs => (keysOf a).map fun k => (look kvs k).isSome
          | none => none
def dIn (kc : Nat → List (Str × Int)) (neg : Bool) (a c : D) (st : Store) : R D := match inN kc st a c with
  | some r => .ok (.bl (if neg then !r else r)) st
  | none => .stuck

/-- what is known of the dicts of the module -/
structure KdOk (G : Gl0) (w : World) (i : Nat) : Prop where
  ex : ∃ es n, KDict G.K w (G.kdA i) es n
  get : ∀ z : Str, ∃ r, PySem.W.nsIn G.K (G.kdA i) z = some r ∧ RelO (((G.kdC i).lookup z).map V.int) r

section
variable {X : Cx} {pins : List (Addr × Obj)} {σ : Sl} {H : Hp} {s : Shared} {G : Gl0} {μ : List Addr} {st : Store}
theorem RepQ.len {ds : List (List Key × D)} {vs : List (List Key × V)} (h : RepQ G μ H ds vs) : ds.length = vs.length := by
  induction ds generalizing vs with
  | nil => cases h; rfl
  | cons d ds ih =>
    cases h with
    | cons _ h => rw [List.length_cons, List.length_cons, ih h]
theorem RepQ.look {ds : List (List Key × D)} {vs : List (List Key × V)} (h : RepQ G μ H ds vs) (k : List Key) : (look ds k = none ∧ valV vs k = none) ∨ ∃ d v, look ds k = some d ∧ valV vs k = some v ∧ Rep G μ H d v := by
  induction ds generalizing vs with
  | nil => cases h; exact .inl ⟨rfl, rfl⟩
  | cons d ds ih =>
    cases h with
    | @cons k' d v ds vs h1 h2 =>
      by_cases e : k' = k
      · exact .inr ⟨d, v, by simp [Bk.look, e], by simp [valV, e], h1⟩
      · rcases ih h2 with ⟨q1, q2⟩ | ⟨d', v', q1, q2, q3⟩
        · exact .inl ⟨by simpa [Bk.look, e] using q1, by simpa [valV, e] using q2⟩
        · exact .inr ⟨d', v', by simpa [Bk.look, e] using q1, by simpa [valV, e] using q2, q3⟩
theorem asT_rep {a : D} {x : V} {ds : List (List Key × D)} (S : Sim G μ st H) (e : asT st a = some ds) (r : Rep G μ H a x) : ∃ p vs, x = .ref p ∧ Rd H p (.dT vs) ∧ RepQ G μ H ds vs := by
  unfold asT at e
  split at e
  · cases e
    cases r with
    | dT h0 h1 h2 => exact ⟨_, _, rfl, h1, h2⟩
  · rename_i l
    split at e
    · rename_i lk ds' h
      cases e
      cases r with
      | ref h0 =>
        obtain ⟨vs, e1, e2, e3⟩ := S.obj _ _ _ h h0
        cases lk with
        | false => exact ⟨_, vs, rfl, .inl (e1 rfl), e3⟩
        | true => exact ⟨_, vs, rfl, .inr (e2 rfl), e3⟩
    · cases e
  · cases e
theorem keyOf_rep {d : D} {k : Key} {x : V} (e : keyOf d = some k) (r : Rep G μ H d x) : x = kV k := by
  unfold keyOf at e
  split at e
  · cases e; cases r; rfl
  · cases e; cases r; rfl
  · cases e
theorem keysOf_rep : ∀ {ds : List D} {ks : List Key} {vs : List V}, keysOf' ds = some ks → RepL G μ H ds vs → vs = ks.map kV
  | [], _, _, e, r => by cases e; cases r; rfl
  | d :: ds, ks, _, e, r => by
    cases r with
    | cons r1 r2 =>
      unfold keysOf' at e
      cases q : keyOf d with
      | none => rw [q] at e; cases e
      | some k =>
        rw [q] at e
        cases q2 : keysOf' ds with
        | none => rw [q2] at e; cases e
        | some r =>
          rw [q2] at e
          cases e
          rw [keyOf_rep q r1, keysOf_rep q2 r2]
          rfl
/-- a tuple that was made, as a key -/
theorem keys_at {a : D} {k : List Key} {x : V} (e : keysOf a = some k) (r : Rep G μ H a x) : ∃ b, x = .ref b ∧ H b = some (.tup (k.map kV)) := by
  unfold keysOf at e
  split at e
  · cases r with
    | tup h0 h1 h2 =>
      have z := keysOf_rep e h2
      subst z
      exact ⟨_, rfl, h1⟩
  · cases e
theorem inAll_at {A : Around} {x : Value} {f : D → Option Bool} (hf : ∀ d r y u, f d = some r → Rep G μ H d y → RelV y u → SeqAt.EqAt A s u x r) : ∀ (ds : List D) (r : Bool) (vs : List V) (us : List Value), inAll f ds = some r → RepL G μ H ds vs → Vals vs us →
    (r = true → ∃ u ∈ us, SeqAt.EqAt A s u x true) ∧ (∀ u ∈ us, SeqAt.EqAt A s u x true ∨ SeqAt.EqAt A s u x false) ∧ (r = false → ∀ u ∈ us, SeqAt.EqAt A s u x false)
  | [], r, _, _, h, r1, v1 => by
    cases r1; cases v1; cases h
    exact ⟨(fun z => by cases z), fun u hu => absurd hu (by simp), fun _ u hu => absurd hu (by simp)⟩
  | d :: ds, r, _, _, h, r1, v1 => by
    cases r1 with
    | cons a1 a2 =>
      cases v1 with
      | cons c1 c2 =>
        unfold inAll at h
        cases q : f d with
        | none => rw [q] at h; cases h
        | some b =>
          rw [q] at h
          cases q2 : inAll f ds with
          | none => rw [q2] at h; cases h
          | some c =>
            rw [q2] at h
            cases h
            have e1 := hf _ _ _ _ q a1 c1
            obtain ⟨g1, g2, g3⟩ := inAll_at hf ds c _ _ q2 a2 c2
            refine ⟨fun z => ?_, fun u hu => ?_, fun z u hu => ?_⟩
            · cases b with
              | true => exact ⟨_, List.mem_cons_self, e1⟩
              | false =>
                obtain ⟨u, hu, e⟩ := g1 (by simpa using z)
                exact ⟨u, List.mem_cons_of_mem _ hu, e⟩
            · rcases List.mem_cons.mp hu with rfl | hu
              · cases b with
                | true => exact .inl e1
                | false => exact .inr e1
              · exact g2 u hu
            · simp only [Bool.or_eq_false_iff] at z
              rcases List.mem_cons.mp hu with rfl | hu
              · rw [z.1] at e1
                exact e1
              · exact g3 z.2 u hu
/-- which items are equal to x, with the answer r -/
theorem inAll_fun {A : Around} {x : Value} {r : Bool} {us : List Value} (h : (r = true → ∃ u ∈ us, SeqAt.EqAt A s u x true) ∧ (∀ u ∈ us, SeqAt.EqAt A s u x true ∨ SeqAt.EqAt A s u x false) ∧ (r = false → ∀ u ∈ us, SeqAt.EqAt A s u x false)) :
    ∃ e : Value → Bool, (∀ u, u ∈ us.toArray → SeqAt.EqAt A s u x (e u)) ∧ us.toArray.any e = r := by
  classical
  obtain ⟨h1, h2, h3⟩ := h
  cases r with
  | false => exact ⟨fun _ => false, fun u hu => h3 rfl u (by simpa using hu), by simp⟩
  | true =>
    refine ⟨fun u => decide (SeqAt.EqAt A s u x true), fun u hu => ?_, ?_⟩
    · by_cases e : SeqAt.EqAt A s u x true
      · simp only [e, decide_true]
      · simp only [e, decide_false]
        exact (h2 u (by simpa using hu)).resolve_left e
    · obtain ⟨u, hu, e⟩ := h1 rfl
      simp only [List.any_toArray, List.any_eq_true, decide_eq_true_eq]
      exact ⟨u, hu, e⟩

def rInX (G : Gl0) (neg : Bool) : R2 := fun x y H Q => ∃ μ st a c r, Sim G μ st H ∧ Rep G μ H a x ∧ Rep G μ H c y ∧ inN G.kdC st a c = some r ∧ Q (.bl (if neg then !r else r)) H
/-- what is asked: by its answer, in or not in -/
theorem in_run (hK : G.K = X.K) (kdOk : ∀ i, (G.kdC i) ≠ [] → KdOk G X.w i) (hu : X.A.units + 64 < cLine) (I : Inv X pins σ H s) (S : Sim G μ st H) {a c : D} {x y : V} {v u : Value} {r : Bool} (rx : RelV x v) (ry : RelV y u) (ra : Rep G μ H a x) (rc : Rep G μ H c y) (e : inN G.kdC st a c = some r)
    {Q1 Q2 : Value → Shared → Prop} (h1 : ∀ s', Inv X pins σ H s' → Q1 (.bool r) s') (h2 : ∀ s', Inv X pins σ H s' → Q2 (.bool (!r)) s') :
    wpAny (model X.prog X.w) X.A (compareOp .In v u) Q1 X.xe s ∧ wpAny (model X.prog X.w) X.A (compareOp .NotIn v u) Q2 X.xe s := by
  unfold inN at e
  split at e
  · rename_i x' z
    cases ra; cases rc
    obtain ⟨t, rfl⟩ := rx
    obtain ⟨t', rfl⟩ := ry
    cases e
    have fin1 : ∀ b, b = strIn x' z → EP X pins σ (fun v' H' => v' = .bl (strIn x' z) ∧ H' = H) (.bool b) s := fun b hb => ⟨.bl b, H, I, rfl, by rw [hb], rfl⟩
    have fin2 : ∀ b, b = strIn x' z → EP X pins σ (fun v' H' => v' = .bl (!strIn x' z) ∧ H' = H) (.bool (!b)) s := fun b hb => ⟨.bl (!b), H, I, rfl, by rw [hb], rfl⟩
    have up1 : ∀ {v' s'}, EP X pins σ (fun v' H' => v' = .bl (strIn x' z) ∧ H' = H) v' s' → Q1 v' s' := fun {v' s'} ⟨w, H', I', r', e1, e2⟩ => by
      subst e1 e2
      cases r'
      exact h1 s' I'
    have up2 : ∀ {v' s'}, EP X pins σ (fun v' H' => v' = .bl (!strIn x' z) ∧ H' = H) v' s' → Q2 v' s' := fun {v' s'} ⟨w, H', I', r', e1, e2⟩ => by
      subst e1 e2
      cases r'
      exact h2 s' I'
    cases hc : x'.cps.toList with
    | nil =>
      have es : strIn x' z = !(Builtin.Str.occurrences z x' 0 z.length 1).isEmpty := by unfold strIn; rw [hc]
      exact ⟨thn (op_in_str pins s σ H (.str x') (.str z) _ _ _ I ⟨t, rfl⟩ ⟨t', rfl⟩ ⟨_, _, rfl, rfl, by rw [es], rfl⟩) fun _ _ q => up1 q,
        thn (op_notIn_str pins s σ H (.str x') (.str z) _ _ _ I ⟨t, rfl⟩ ⟨t', rfl⟩ ⟨_, _, rfl, rfl, by rw [es], rfl⟩) fun _ _ q => up2 q⟩
    | cons c0 cs =>
      cases cs with
      | nil =>
        have es : strIn x' z = decide (c0 ∈ z.cps.toList) := by unfold strIn; rw [hc]
        have ex : x' = ⟨#[c0]⟩ := by
          cases x' with
          | mk cps =>
            have : cps = #[c0] := Array.ext' hc
            rw [this]
        subst ex
        exact ⟨thn (op_in_sign pins s σ H (.str _) (.str z) _ _ _ I ⟨t, rfl⟩ ⟨t', rfl⟩ ⟨_, _, rfl, rfl, by rw [es], rfl⟩) fun _ _ q => up1 q,
          thn (op_notIn_sign pins s σ H (.str _) (.str z) _ _ _ I ⟨t, rfl⟩ ⟨t', rfl⟩ ⟨_, _, rfl, rfl, by rw [es], rfl⟩) fun _ _ q => up2 q⟩
      | cons c1 cs =>
        have es : strIn x' z = !(Builtin.Str.occurrences z x' 0 z.length 1).isEmpty := by unfold strIn; rw [hc]
        exact ⟨thn (op_in_str pins s σ H (.str x') (.str z) _ _ _ I ⟨t, rfl⟩ ⟨t', rfl⟩ ⟨_, _, rfl, rfl, by rw [es], rfl⟩) fun _ _ q => up1 q,
          thn (op_notIn_str pins s σ H (.str x') (.str z) _ _ _ I ⟨t, rfl⟩ ⟨t', rfl⟩ ⟨_, _, rfl, rfl, by rw [es], rfl⟩) fun _ _ q => up2 q⟩
  · rename_i x' i
    cases ra; cases rc
    cases hc : G.kdC i with
    | nil => rw [hc] at e; cases e
    | cons c0 cs =>
      obtain ⟨⟨es, n, D⟩, hg⟩ := kdOk i (by rw [hc]; exact fun z => by cases z)
      rw [if_neg (by rw [hc]; exact Bool.false_ne_true)] at e
      cases e
      obtain ⟨r, e1, e2⟩ := hg x'
      rw [hK] at D e1
      have hs : r.isSome = ((G.kdC i).lookup x').isSome := by
        cases q : (G.kdC i).lookup x' with
        | none =>
          rw [q] at e2
          cases r with
          | none => rfl
          | some _ => exact e2.elim
        | some j =>
          rw [q] at e2
          cases r with
          | none => exact e2.elim
          | some _ => rfl
      refine ⟨thn (op_in_kd D pins s σ H (.str x') (.ref (G.kdA i)) _ _ (fun v' H' => v' = .bl r.isSome ∧ H' = H) I rx ry ⟨x', r, rfl, rfl, e1, rfl, rfl⟩) fun v' s' ⟨w, H', I', r', q1, q2⟩ => ?_,
        thn (op_notIn_kd D pins s σ H (.str x') (.ref (G.kdA i)) _ _ (fun v' H' => v' = .bl (!r.isSome) ∧ H' = H) I rx ry ⟨x', r, rfl, rfl, e1, rfl, rfl⟩) fun v' s' ⟨w, H', I', r', q1, q2⟩ => ?_⟩
      · subst q1 q2
        cases r'
        rw [hs]
        exact h1 s' I'
      · subst q1 q2
        cases r'
        rw [hs]
        exact h2 s' I'
  · split at e
    · rename_i ds e1
      obtain ⟨l, vs, us, rfl, i1, r1, v1⟩ := tup_at I hK e1 rc ry
      have g := inAll_at (x := v) (A := X.A.in1) (fun d r y u h hd hy => eqN_at I S hK 58 d a r y x u v h hd ra hy rx X.A.in1 (by show X.A.units + 1 + 58 < cLine; omega)) ds r vs us e r1 v1
      obtain ⟨e', g1, g2⟩ := inAll_fun g
      exact ⟨SeqAt.in_tupleAt e' i1 g1 (by rw [g2]; exact h1 s I), SeqAt.notIn_tupleAt e' i1 g1 (by rw [g2]; exact h2 s I)⟩
    · split at e
      · rename_i ds e1
        obtain ⟨l, vs, us, rfl, i1, r1, v1⟩ := asL_at I S e1 rc ry
        have g := inAll_at (x := v) (A := X.A.in1) (fun d r y u h hd hy => eqN_at I S hK 58 d a r y x u v h hd ra hy rx X.A.in1 (by show X.A.units + 1 + 58 < cLine; omega)) ds r vs us e r1 v1
        obtain ⟨e', g1, g2⟩ := inAll_fun g
        exact ⟨SeqAt.in_listAt e' i1 g1 (by rw [g2]; exact h1 s I), SeqAt.notIn_listAt e' i1 g1 (by rw [g2]; exact h2 s I)⟩
      · split at e
        · rename_i kvs e1
          cases q : keyOf a with
          | none => rw [q] at e; cases e
          | some k =>
            rw [q] at e
            cases e
            obtain ⟨p, vs, rfl, g1, g2⟩ := asK_rep S e1 rc
            have ex := keyOf_rep q ra
            subst ex
            cases ry
            have hd : DGet H p (kV k) (valV vs k) := .inl ⟨vs, k, g1, rfl, rfl⟩
            have hs : (valV vs k).isSome = (look kvs k).isSome := by
              rcases g2.look k with ⟨q1, q2⟩ | ⟨d, v', q1, q2, _⟩ <;> rw [q1, q2] <;> rfl
            exact ⟨d_in (by omega) I hd rx fun s' I' => by rw [hs]; exact h1 s' I', d_notIn (by omega) I hd rx fun s' I' => by rw [hs]; exact h2 s' I'⟩
        · split at e
          · rename_i kvs e1
            cases q : keysOf a with
            | none => rw [q] at e; cases e
            | some k =>
              rw [q] at e
              cases e
              obtain ⟨p, vs, rfl, g1, g2⟩ := asT_rep S e1 rc
              obtain ⟨b, rfl, hb⟩ := keys_at q ra
              cases ry
              have hd : DGet H p (.ref b) (valV vs k) := .inr ⟨vs, k, b, g1, rfl, hb, rfl⟩
              have hs : (valV vs k).isSome = (look kvs k).isSome := by
                rcases g2.look k with ⟨q1, q2⟩ | ⟨d, v', q1, q2, _⟩ <;> rw [q1, q2] <;> rfl
              exact ⟨d_in (by omega) I hd rx fun s' I' => by rw [hs]; exact h1 s' I', d_notIn (by omega) I hd rx fun s' I' => by rw [hs]; exact h2 s' I'⟩
          · cases e
theorem op_inX (hK : G.K = X.K) (kdOk : ∀ i, (G.kdC i) ≠ [] → KdOk G X.w i) (hu : X.A.units + 64 < cLine) : OpR X (compareOp .In) (rInX G false) := by
  intro pins s σ H x y v u Q I rx ry h
  obtain ⟨μ, st, a, b, r, S, ra, rb, e, q⟩ := h
  exact (in_run hK kdOk hu I S rx ry ra rb e (Q1 := EP X pins σ Q) (Q2 := fun _ _ => True) (fun s' I' => ⟨.bl r, H, I', rfl, q⟩) fun _ _ => trivial).1
theorem op_notInX (hK : G.K = X.K) (kdOk : ∀ i, (G.kdC i) ≠ [] → KdOk G X.w i) (hu : X.A.units + 64 < cLine) : OpR X (compareOp .NotIn) (rInX G true) := by
  intro pins s σ H x y v u Q I rx ry h
  obtain ⟨μ, st, a, b, r, S, ra, rb, e, q⟩ := h
  exact (in_run hK kdOk hu I S rx ry ra rb e (Q1 := fun _ _ => True) (Q2 := EP X pins σ Q) (fun _ _ => trivial) fun s' I' => ⟨.bl (!r), H, I', rfl, q⟩).2
theorem d_in' {neg : Bool} : OpD G (dIn G.kdC neg) (rInX G neg) := by
  intro W μ ρ st σ H a b x y Q q ra rb
  unfold dIn at q
  split at q
  · rename_i r e
    exact ⟨μ, st, a, b, r, q.sim, ra, rb, e, q.val (.bl _)⟩
  · exact q.post.elim

/-! ### is None -/
def dIs (neg : Bool) (a b : D) (st : Store) : R D := match b with
  | .non => .ok (.bl (match a with | .non => !neg | _ => neg)) st
  | _ => .stuck
theorem d_is : OpD G (dIs false) (fun x y H Q => y = .non ∧ Q (.bl (decide (x = .non))) H) := by
  intro W μ ρ st σ H a b x y Q q ra rb
  unfold dIs at q
  split at q
  · cases rb
    refine ⟨rfl, ?_⟩
    have h := q.val (v := .bl _) (.bl _)
    cases ra <;> exact h
  · exact q.post.elim
theorem d_isnot : OpD G (dIs true) (fun x y H Q => y = .non ∧ Q (.bl (!decide (x = .non))) H) := by
  intro W μ ρ st σ H a b x y Q q ra rb
  unfold dIs at q
  split at q
  · cases rb
    refine ⟨rfl, ?_⟩
    have h := q.val (v := .bl _) (.bl _)
    cases ra <;> exact h
  · exact q.post.elim

/-! ### a[i] -/
def dIxL (ds : List D) (i : D) (st : Store) : R D := match i with
  | .int k => (match atI ds k with
    | some d => .ok d st
    | none => .stuck)
  | _ => .stuck
def dIx (kc : Nat → List (Str × Int)) (a i : D) (st : Store) : R D := match a, i with
  | .str z, .int k => if z.length ≤ big then (match atI z.cps.toList k with
    | some c => .ok (.str ⟨#[c]⟩) st
    | none => .stuck) else .stuck
  | .kd j, .str z => match (kc j).lookup z with
    | some v => .ok (.int v) st
    | none => .stuck
  | _, _ => match asTup a with
    | some ds => dIxL ds i st
    | none => match asL st a with
      | some ds => dIxL ds i st
      | none => match asK st a with
        | some kvs => (match (keyOf i).bind (look kvs) with
          | some d => .ok d st
          | none => .stuck)
        | none => match asT st a with
          | some kvs => (match (keysOf i).bind (look kvs) with
            | some d => .ok d st
            | none => .stuck)
          | none => .stuck
theorem ix_dict (hu : X.A.units + 1 < cLine) : IxR X (fun x y H Q => ∃ a v, x = .ref a ∧ DGet H a y (some v) ∧ Q v H) := by
  intro value slice pins s σ H x y v u Q I rx ry h hs
  obtain ⟨a, v', rfl, g, q⟩ := h
  cases rx
  exact tail_any (dict_typeIs I g) slot_dict_getitem.lookup (d_getItem hu I g ry fun w' s' I' r' => ⟨v', H, I', r', q⟩) hs
def rIxU (K : PySem.W.Frag) (w : World) : R2 := fun x y H Q => rIx K x y H Q ∨ (rIxD K w x y H Q ∨ ∃ a v, x = .ref a ∧ DGet H a y (some v) ∧ Q v H)
theorem ix_U (hu : X.A.units + 1 < cLine) : IxR X (rIxU X.K X.w) := ix_seq.or (ix_kdict.or (ix_dict hu))
theorem atI_rep {ds : List D} {vs : List V} {k : Int} {d : D} (e : atI ds k = some d) (r : RepL G μ H ds vs) : ∃ v, atI vs k = some v ∧ Rep G μ H d v := by
  unfold atI at e ⊢
  rw [← r.len]
  cases q : ixN ds.length k with
  | none => rw [q] at e; cases e
  | some j =>
    rw [q] at e
    exact r.get e
theorem d_ix {w : World} (kdOk : ∀ i, (G.kdC i) ≠ [] → KdOk G w i) : OpD G (dIx G.kdC) (rIxU G.K w) := by
  intro W μ ρ st σ H a b x y Q q ra rb
  unfold dIx at q
  split at q
  · cases ra; cases rb
    split at q
    · rename_i hz
      split at q
      · rename_i c e
        exact .inl (.inr (.inr ⟨_, _, c, rfl, rfl, by rw [← big_eq]; exact hz, e, q.val (.str _)⟩))
      · exact q.post.elim
    · exact q.post.elim
  · rename_i j z
    cases ra; cases rb
    split at q
    · rename_i v e
      have hne : G.kdC j ≠ [] := fun h => by rw [h] at e; cases e
      obtain ⟨⟨es, n, D⟩, hg⟩ := kdOk j hne
      obtain ⟨r, e1, e2⟩ := hg z
      rw [e] at e2
      cases r with
      | none => exact e2.elim
      | some u => exact .inr (.inl ⟨_, z, .int v, rfl, rfl, ⟨es, n, u, D.at_, D.lit, e1, e2⟩, q.val (.int _)⟩)
    · exact q.post.elim
  · split at q
    · rename_i ds e1
      unfold dIxL at q
      split at q
      · cases rb
        split at q
        · rename_i d e
          obtain ⟨p, vs, rfl, h1, h2⟩ := asTup_rep e1 ra
          obtain ⟨v, h3, h4⟩ := atI_rep e h2
          exact .inl (.inr (.inl ⟨p, vs, _, v, rfl, rfl, h1, h3, q.val h4⟩))
        · exact q.post.elim
      · exact q.post.elim
    · split at q
      · rename_i ds e1
        unfold dIxL at q
        split at q
        · cases rb
          split at q
          · rename_i d e
            obtain ⟨p, vs, rfl, h1, h2⟩ := asL_rep q.sim e1 ra
            obtain ⟨v, h3, h4⟩ := atI_rep e h2
            exact .inl (.inl ⟨p, vs, _, v, rfl, rfl, SqL.of h1, h3, q.val h4⟩)
          · exact q.post.elim
        · exact q.post.elim
      · split at q
        · rename_i kvs e1
          split at q
          · rename_i d e
            obtain ⟨p, vs, rfl, g1, g2⟩ := asK_rep q.sim e1 ra
            cases hk : keyOf b with
            | none => rw [hk] at e; cases e
            | some k =>
              rw [hk] at e
              have ex := keyOf_rep hk rb
              subst ex
              have e : look kvs k = some d := e
              rcases g2.look k with ⟨q1, _⟩ | ⟨d', v', q1, q2, q3⟩
              · rw [e] at q1; cases q1
              · rw [e] at q1
                cases q1
                exact .inr (.inr ⟨p, v', rfl, .inl ⟨vs, k, g1, rfl, q2.symm⟩, q.val q3⟩)
          · exact q.post.elim
        · split at q
          · rename_i kvs e1
            split at q
            · rename_i d e
              obtain ⟨p, vs, rfl, g1, g2⟩ := asT_rep q.sim e1 ra
              cases hk : keysOf b with
              | none => rw [hk] at e; cases e
              | some k =>
                rw [hk] at e
                obtain ⟨b', rfl, hb⟩ := keys_at hk rb
                have e : look kvs k = some d := e
                rcases g2.look k with ⟨q1, _⟩ | ⟨d', v', q1, q2, q3⟩
                · rw [e] at q1; cases q1
                · rw [e] at q1
                  cases q1
                  exact .inr (.inr ⟨p, v', rfl, .inr ⟨vs, k, b', g1, rfl, hb, q2.symm⟩, q.val q3⟩)
            · exact q.post.elim
          · exact q.post.elim
end
end Bk

namespace Bk
open L2 PyProof.Rows PySem.Spec PySem

/-! ## What a program means: from the model's syntax to deep values -/
abbrev Fn := List D → Store → R D
/-- what a module's name is -/
inductive GV where
  | blt (f : Fn)
  | rng | enm | zip | told | any | all | sum | srt | tupl | mini
  | val (d : D)
  | fn (f : Fn)
  | exc (c : Nat)
  | none
structure SEnv where
  kc : Nat → List (Str × Int)
  N : List Str
  mu : Pos → Bool
  glob : Str → GV
  lamP : List Pos
  caught : Nat → Bool
  toldS : Str
  kf : Nat

def relSc (sc scope : Scope) : Scope := { scope with names := scope.names.map fun (n, k) => if (k == NameKind.free && sc.kind == .function && sc.names.lookup n == some .cell) then (n, NameKind.cell) else (n, k) }
def isGlob (sc : Scope) (x : Str) : Bool := sc.names.lookup x == some .globalImplicit
def ownOf (N : List Str) (scope : Scope) : List (Str × Nat) := scope.names.filterMap fun (n, k) => if (k == .local || k == .cell) && N.contains n then some (n, N.idxOf n) else none
def wipeD (ρ : Lc) : List Nat → Lc
  | [] => ρ
  | v :: vs => (wipeD ρ vs).set v none

def sCons (f : SE) (g : SA) : SA := fun ρ st => (f ρ st).bind fun d st1 => (g ρ st1).bind fun ds st2 => .ok (d :: ds) st2
def sNil : SA := fun _ st => .ok [] st
def sCall (f : Fn) (g : SA) : SE := fun ρ st => (g ρ st).bind fun ds st1 => f ds st1
def mkL (m : Bool) (ds : List D) (st : Store) : R D := if ds.length ≤ big then (if m then .ok (.ref st.length) (st ++ [.lst ds]) else .ok (.lst ds) st) else .stuck
def mkT (ds : List D) (st : Store) : R D := if ds.length ≤ big then .ok (.tup ds) st else .stuck
def sAnd (f g : SE) : SE := fun ρ st => (f ρ st).bind fun d st1 => match d with
  | .bl true => g ρ st1
  | .bl false => .ok (.bl false) st1
  | _ => .stuck
def truthy (st : Store) : D → Option Bool
  | .non => some false
  | .bl b => some b
  | .int i => some (i != 0)
  | .str x => if x.length ≤ big then some ((x.length : Int) != 0) else none
  | d => match asTup d with
    | some ds => some (!ds.isEmpty)
    | none => match asL st d with
      | some ds => some (!ds.isEmpty)
      | none => none
def sOr (f g : SE) : SE := fun ρ st => (f ρ st).bind fun d st1 => match truthy st1 d with
  | some true => .ok d st1
  | some false => g ρ st1
  | none => .stuck
def sAndT (f g : SE) : SE := fun ρ st => (f ρ st).bind fun d st1 => match truthy st1 d with
  | some true => g ρ st1
  | some false => .ok d st1
  | none => .stuck
def sNotT (f : SE) : SE := fun ρ st => (f ρ st).bind fun d st1 => match truthy st1 d with
  | some b => .ok (.bl (!b)) st1
  | none => .stuck
def tVal (f : SE) : ST := fun ρ st => (f ρ st).bind fun d st1 => match truthy st1 d with
  | some b => .ok b st1
  | none => .stuck
def tNot' (f : ST) : ST := fun ρ st => (f ρ st).bind fun b st1 => .ok (!b) st1
def tAnd' (f g : ST) : ST := fun ρ st => (f ρ st).bind fun b st1 => if b then g ρ st1 else .ok false st1
def tOr' (f g : ST) : ST := fun ρ st => (f ρ st).bind fun b st1 => if b then .ok true st1 else g ρ st1
/-- a < b < c -/
def sChain (o1 o2 : D → D → Store → R D) (f g h : SE) : SE := fun ρ st => (f ρ st).bind fun a st1 => (g ρ st1).bind fun b st2 => (o1 a b st2).bind fun r st3 => match r with
  | .bl true => (h ρ st3).bind fun c st4 => o2 b c st4
  | .bl false => .ok (.bl false) st3
  | _ => .stuck
abbrev SP := Lc → Store → R (Option Int)
def pNone : SP := fun _ st => .ok none st
def pSome (f : SE) : SP := fun ρ st => (f ρ st).bind fun d st1 => match d with
  | .int i => .ok (some i) st1
  | _ => .stuck
def cutD (ds : List D) (lo hi : Option Int) : List D := (ds.drop (HT.sIx ds.length 0 lo)).take (HT.sIx ds.length ds.length hi - HT.sIx ds.length 0 lo)
def mkF (m : Bool) (ds : List D) (st : Store) : R D := if m then .ok (.ref st.length) (st ++ [.lst ds]) else .ok (.lst ds) st
def dSlice (m : Bool) (a : D) (lo hi : Option Int) (st : Store) : R D := match a with
  | .str z => if z.length ≤ big then .ok (.str (cutS z lo hi)) st else .stuck
  | .scr ns => mkF m (cutD (ns.map D.int) lo hi) st
  | .tup ds => .ok (.tup (cutD ds lo hi)) st
  | a => match asL st a with
      | some ds => mkF m (cutD ds lo hi) st
      | none => .stuck
def sSlice (m : Bool) (f : SE) (lo hi : SP) : SE := fun ρ st => (f ρ st).bind fun a st1 => (lo ρ st1).bind fun l st2 => (hi ρ st2).bind fun h st3 => dSlice m a l h st3
def dRev (m : Bool) (a : D) (st : Store) : R D := match a with
  | .scr ns => mkF m (ns.map D.int).reverse st
  | a => match asL st a with
      | some ds => mkF m ds.reverse st
      | none => .stuck

/-! ### what is walked -/
/-- what a walk yields at turn i: none: no word; some none: it is over -/
abbrev Cur := Nat → Store → Option (Option D)
structure Wk where
  cur : Cur
  n : Nat
  lk : Option Nat
def cList (ds : List D) : Cur := fun i _ => some ds[i]?
def cRef (l : Nat) : Cur := fun i st => match st[l]? with
  | some (.lst ds) => some ds[i]?
  | _ => none
def wkL (ds : List D) : Wk := ⟨cList ds, ds.length + 1, none⟩
def fuelW : Nat := 1000000000
def wkR (l : Nat) : Wk := ⟨cRef l, fuelW, none⟩
def cEnum (c : Cur) : Cur := fun i st => (c i st).map fun o => o.map fun d => .tup [.int i, d]
def cZip (c e : Cur) : Cur := fun i st => match c i st with
  | none => none
  | some o => (match e i st with
    | none => none
    | some p => (match o with
      | none => some none
      | some d => (match p with
        | none => some none
        | some f => some (some (.tup [d, f])))))
def rngL (lo c : Int) (n : Nat) : List D := (List.range n).map fun (i : Nat) => D.int (lo + (i : Int) * c)
def chars (x : Str) : List D := x.cps.toList.map fun c => D.str ⟨#[c]⟩
def keyD : Key → D
  | .inl i => .int i
  | .inr x => .str x
/-- a thing is walked; a dict is held meanwhile -/
def dIter (d : D) (st : Store) : R Wk := match d with
  | .str x => .ok (wkL (chars x)) st
  | .tup ds => .ok (wkL ds) st
  | .ktup ds => .ok (wkL ds) st
  | .lst ds => .ok (wkL ds) st
  | .dK kvs => .ok (wkL (kvs.map fun p => keyD p.1)) st
  | .ref l => (match st[l]? with
    | some (.lst _) => .ok (wkR l) st
    | some (.dK lk kvs) => if lk then .ok (wkL (kvs.map fun p => keyD p.1)) st else .ok ⟨cList (kvs.map fun p => keyD p.1), kvs.length + 1, some l⟩ (List.set st l (.dK true kvs))
    | _ => .stuck)
  | _ => .stuck
abbrev SI := Lc → Store → R Wk
def iVal (f : SE) : SI := fun ρ st => (f ρ st).bind fun d st1 => dIter d st1
def b62 (i : Int) : Bool := decide (-(2 ^ 62) ≤ i) && decide (i < 2 ^ 62)
def iRng1' (f : SE) : SI := fun ρ st => (f ρ st).bind fun d st1 => match d with
  | .int n => if b62 n then .ok (wkL (rngL 0 1 n.toNat)) st1 else .stuck
  | _ => .stuck
def iRng2' (f g : SE) : SI := fun ρ st => (f ρ st).bind fun d st1 => (g ρ st1).bind fun e st2 => match d with
  | .int a => (match e with
    | .int b => if b62 a && b62 b then .ok (wkL (rngL a 1 (b - a).toNat)) st2 else .stuck
    | _ => .stuck)
  | _ => .stuck
def iRng3' (f g h : SE) : SI := fun ρ st => (f ρ st).bind fun d st1 => (g ρ st1).bind fun e st2 => (h ρ st2).bind fun k st3 => match d with
  | .int a => (match e with
    | .int b => (match k with
      | .int c => if c ≠ 0 ∧ c.natAbs < 1073741824 ∧ Builtin.Range.small a b c = true ∧ 0 ≤ Builtin.Range.rangeSize a b c then .ok (wkL (rngL a c (Builtin.Range.rangeSize a b c).toNat)) st3 else .stuck
      | _ => .stuck)
    | _ => .stuck)
  | _ => .stuck
def iEnum (f : SE) : SI := fun ρ st => (f ρ st).bind fun d st1 => (match d with
  | .str x => .ok (wkL (chars x)) st1
  | .lst ds => .ok (wkL ds) st1
  | .ref l => (match st1[l]? with
    | some (.lst _) => .ok (wkR l) st1
    | _ => .stuck)
  | _ => .stuck : R Wk).bind fun w st2 => .ok ⟨cEnum w.cur, w.n, none⟩ st2
def dZip (d : D) (st : Store) : Option Wk := match d with
  | .lst ds => some (wkL ds)
  | .ref l => (match st[l]? with
    | some (.lst _) => some (wkR l)
    | _ => none)
  | _ => none
def iZip (f g : SE) : SI := fun ρ st => (f ρ st).bind fun d st1 => (g ρ st1).bind fun e st2 => match dZip d st2, dZip e st2 with
  | some w, some v => .ok ⟨cZip w.cur v.cur, min w.n v.n, none⟩ st2
  | _, _ => .stuck
/-- what was held is let go -/
def unlk (lk : Option Nat) (st : Store) : Option Store := match lk with
  | none => some st
  | some l => (match st[l]? with
    | some (.dK true kvs) => some (List.set st l (.dK false kvs))
    | some (.dT true kvs) => some (List.set st l (.dT false kvs))
    | _ => none)
def unlkR {α : Type} (lk : Option Nat) (r : R α) : R α := match r with
  | .ok a st => (match unlk lk st with | some st' => .ok a st' | none => .stuck)
  | .exn c st => (match unlk lk st with | some st' => .exn c st' | none => .stuck)
  | .stuck => .stuck
def noExn {α : Type} (r : R α) : R α := match r with
  | .exn _ _ => .stuck
  | r => r
/-- targets -/
abbrev SG := D → Lc → Option Lc
def gName' (i : Nat) : SG := fun d ρ => if i < ρ.length then some (ρ.set i (some d)) else none
def gAll : List SG → List D → Lc → Option Lc
  | [], [], ρ => some ρ
  | g :: gs, d :: ds, ρ => (g d ρ).bind fun ρ1 => gAll gs ds ρ1
  | _, _, _ => none
def gTup' (gs : List SG) : SG := fun d ρ => (asTup d).bind fun ds => gAll gs ds ρ
/-- [elt for g in items if test] -/
def compC (g : SG) (test : ST) (elt : SE) (ρ0 : Lc) (cur : Cur) : Nat → Nat → Store → R (List D)
  | 0, _, _ => .stuck
  | n + 1, i, st => match cur i st with
    | none => .stuck
    | some none => .ok [] st
    | some (some d) => match g d ρ0 with
      | none => .stuck
      | some ρ1 => (test ρ1 st).bind fun b st2 => if b then (elt ρ1 st2).bind fun y st3 => (compC g test elt ρ0 cur n (i + 1) st3).bind fun ys st4 => .ok (y :: ys) st4 else compC g test elt ρ0 cur n (i + 1) st2
def mkB (m : Bool) (ds : List D) (st : Store) : R D := if ds.length ≤ big then mkF m ds st else .stuck
def sComp (m : Bool) (own : List Nat) (it : SI) (g : SG) (test : ST) (elt : SE) : SE := fun ρ st => (it ρ st).bind fun w st1 => unlkR w.lk (noExn ((compC g test elt (wipeD ρ own) w.cur w.n 0 st1).bind fun ys st2 => mkB m ys st2))
/-- two fors -/
def compC2 (g : SG) (own2 : List Nat) (it2 : SI) (g2 : SG) (test : ST) (elt : SE) (ρ0 : Lc) (cur : Cur) : Nat → Nat → Store → R (List D)
  | 0, _, _ => .stuck
  | n + 1, i, st => match cur i st with
    | none => .stuck
    | some none => .ok [] st
    | some (some d) => match g d ρ0 with
      | none => .stuck
      | some ρ1 => (it2 ρ1 st).bind fun w st2 => match w.lk with
        | some _ => .stuck
        | none => (compC g2 test elt (wipeD ρ1 own2) w.cur w.n 0 st2).bind fun ys st3 => (compC2 g own2 it2 g2 test elt ρ0 cur n (i + 1) st3).bind fun zs st4 => .ok (ys ++ zs) st4
def sComp2 (m : Bool) (own own2 : List Nat) (it : SI) (g : SG) (it2 : SI) (g2 : SG) (test : ST) (elt : SE) : SE := fun ρ st => (it ρ st).bind fun w st1 => unlkR w.lk (noExn ((compC2 g own2 it2 g2 test elt (wipeD ρ own) w.cur w.n 0 st1).bind fun ys st2 => mkB m ys st2))

/-! ### statements -/
def sE2 (r : R D) (k : D → Store → RS) : RS := match r with
  | .ok d st => k d st
  | .exn c st => .exn c st
  | .stuck => .stuck
def RS.then (r : RS) (k : Lc → Store → RS) : RS := match r with
  | .nx ρ st => k ρ st
  | r => r
def unlkS (lk : Option Nat) (r : RS) : RS := match r with
  | .nx ρ st => (match unlk lk st with | some st' => .nx ρ st' | none => .stuck)
  | .rt d st => (match unlk lk st with | some st' => .rt d st' | none => .stuck)
  | .bk ρ st => (match unlk lk st with | some st' => .bk ρ st' | none => .stuck)
  | .ct ρ st => (match unlk lk st with | some st' => .ct ρ st' | none => .stuck)
  | .exn c st => (match unlk lk st with | some st' => .exn c st' | none => .stuck)
  | .stuck => .stuck
def forC (g : SG) (body : SS) (cur : Cur) : Nat → Nat → Lc → Store → RS
  | 0, _, _, _ => .stuck
  | n + 1, i, ρ, st => match cur i st with
    | none => .stuck
    | some none => .nx ρ st
    | some (some d) => match g d ρ with
      | none => .stuck
      | some ρ1 => (match body ρ1 st with
        | .nx ρ2 st2 => forC g body cur n (i + 1) ρ2 st2
        | .ct ρ2 st2 => forC g body cur n (i + 1) ρ2 st2
        | .bk ρ2 st2 => .nx ρ2 st2
        | r => r)
def whileN (t : ST) (body : SS) : Nat → Lc → Store → RS
  | 0, _, _ => .stuck
  | n + 1, ρ, st => match t ρ st with
    | .ok true st1 => (match body ρ st1 with
      | .nx ρ2 st2 => whileN t body n ρ2 st2
      | .ct ρ2 st2 => whileN t body n ρ2 st2
      | .bk ρ2 st2 => .nx ρ2 st2
      | r => r)
    | .ok false st1 => .nx ρ st1
    | .exn c st1 => .exn c st1
    | .stuck => .stuck
def putD {κ : Type} [DecidableEq κ] (kvs : List (κ × D)) (k : κ) (v : D) : List (κ × D) :=
  if (kvs.any fun kv => decide (kv.1 = k)) = true then kvs.map (fun kv => if kv.1 = k then (kv.1, v) else kv) else kvs ++ [(k, v)]
/-- a[i] = v, a an object of the store -/
def dSet (a i v : D) (st : Store) : R Unit := match a with
  | .ref l => match st[l]? with
    | some (.lst ds) => (match i with
      | .int k => (match ixN ds.length k with
        | some j => .ok () (List.set st l (.lst (ds.set j v)))
        | none => .stuck)
      | _ => .stuck)
    | some (.dK false kvs) => (match keyOf i with
      | some k => if kvs.length < big then .ok () (List.set st l (.dK false (putD kvs k v))) else .stuck
      | none => .stuck)
    | _ => .stuck
  | _ => .stuck

/-! ### some built-ins -/
def bLen (ds : List D) (st : Store) : R D := match ds with
  | [.str x] => if x.length ≤ big then .ok (.int x.length) st else .stuck
  | [d] => match asTup d with
    | some xs => .ok (.int xs.length) st
    | none => match asL st d with
      | some xs => .ok (.int xs.length) st
      | none => .stuck
  | _ => .stuck
def bAbs (ds : List D) (st : Store) : R D := match ds with
  | [.int n] => .ok (.int (if n < 0 then -n else n)) st
  | _ => .stuck
def bInt (ds : List D) (st : Store) : R D := match ds with
  | [.int n] => .ok (.int n) st
  | [.bl b] => .ok (.int (if b then 1 else 0)) st
  | [.str x] => if x.length ≤ 640 then (match PySem.intText? x with
    | some n => .ok (.int n) st
    | none => .stuck) else .stuck
  | _ => .stuck
def bStr (ds : List D) (st : Store) : R D := match ds with
  | [.int n] => if n.natAbs.log2 < 1920 then .ok (.str (Str.ofString (toString n))) st else .stuck
  | [.str x] => .ok (.str x) st
  | _ => .stuck
/-- the items of a thing (it stands still) -/
def items (st : Store) (d : D) : Option (List D) := match d with
  | .str x => some (chars x)
  | .dK kvs => some (kvs.map fun p => keyD p.1)
  | .ref l => (match st[l]? with
    | some (.lst ds) => some ds
    | some (.dK _ kvs) => some (kvs.map fun p => keyD p.1)
    | _ => none)
  | d => match asTup d with
    | some ds => some ds
    | none => asL st d
def mergeD (kvs : List (Key × D)) (more : List (Key × D)) : List (Key × D) := more.foldl (fun acc kv => putD acc kv.1 kv.2) kvs
def mergeT (kvs : List (List Key × D)) (more : List (List Key × D)) : List (List Key × D) := more.foldl (fun acc kv => putD acc kv.1 kv.2) kvs
def pairsK : List D → Option (List (Key × D))
  | [] => some []
  | .tup [k, v] :: r => (keyOf k).bind fun k => (pairsK r).map fun r => (k, v) :: r
  | _ => none
def bDict (kc : Nat → List (Str × Int)) (ds : List D) (st : Store) : R D := match ds with
  | [.kd i] => .ok (.dK ((kc i).map fun p => (.inr p.1, .int p.2))) st
  | [d] => match asL st d with
    | some xs => (match pairsK xs with
      | some kvs => .ok (.dK (mergeD [] kvs)) st
      | none => .stuck)
    | none => .stuck
  | _ => .stuck
def insD (x : D) (st : Store) : List D → Option (List D)
  | [] => some [x]
  | y :: ys => match ordN st .Lt 60 x y with
    | some true => some (x :: y :: ys)
    | some false => (insD x st ys).map (y :: ·)
    | none => none
/-- stable insertion: later equal ones behind -/
def sortD (st : Store) : List D → Option (List D)
  | [] => some []
  | x :: xs => (sortD st xs).bind fun ys => insR x st ys
where insR (x : D) (st : Store) : List D → Option (List D)
  | [] => some [x]
  | y :: ys => match ordN st .Lt 60 y x with
    | some true => (insR x st ys).map (y :: ·)
    | some false => some (x :: y :: ys)
    | none => none
def bSorted (ds : List D) (st : Store) : R D := match ds with
  | [d] => match items st d with
    | some xs => (match sortD st xs with
      | some ys => .ok (.lst ys) st
      | none => .stuck)
    | none => .stuck
  | _ => .stuck
def bList (ds : List D) (st : Store) : R D := match ds with
  | [d] => match items st d with
    | some xs => .ok (.lst xs) st
    | none => .stuck
  | [] => .ok (.lst []) st
  | _ => .stuck
def bTuple (ds : List D) (st : Store) : R D := match ds with
  | [d] => match items st d with
    | some xs => .ok (.tup xs) st
    | none => .stuck
  | _ => .stuck
def strsOf : List D → Option (List Str)
  | [] => some []
  | .str x :: r => (strsOf r).map fun r => x :: r
  | _ => none
/-! the methods known -/
def seqOf (st : Store) (d : D) : Option (List D) := match asTup d with
  | some ds => some ds
  | none => asL st d
def mJoin (z : Str) : Fn := fun args st => match args with
  | [d] => (match (seqOf st d).bind strsOf with
      | some xs => if (xs.map (·.length)).sum + xs.length * z.length ≤ big then .ok (.str (Txt.join z xs)) st else .stuck
      | none => .stuck)
  | _ => .stuck
def mFind (z : Str) : Fn := fun args st => match args with
  | [.str x] => .ok (.int (Txt.find z x)) st
  | _ => .stuck
def mIndex (z : Str) : Fn := fun args st => match args with
  | [.str x] => (match Builtin.Str.occurrences z x 0 z.length 1 with | k :: _ => .ok (.int (k : Nat)) st | [] => .stuck)
  | _ => .stuck
def mCount (z : Str) : Fn := fun args st => match args with
  | [.str x] => .ok (.int (Txt.count z x)) st
  | _ => .stuck
def mAppend (l : Nat) : Fn := fun args st => match args with
  | [d] => (match st[l]? with
    | some (.lst ds) => if ds.length < big then .ok .non (List.set st l (.lst (ds ++ [d]))) else .stuck
    | _ => .stuck)
  | _ => .stuck
def mtStr (m : Str) (z : Str) : Option Fn :=
  if m = ("join" : Str) then some (mJoin z) else if m = ("find" : Str) then some (mFind z) else if m = ("index" : Str) then some (mIndex z) else if m = ("count" : Str) then some (mCount z) else none
def mtLst (m : Str) (l : Nat) : Option Fn := if m = ("append" : Str) then some (mAppend l) else none
def mtOf (m : Str) (a : D) (st : Store) : Option Fn := match a with
  | .str z => mtStr m z
  | .ref l => (match st[l]? with
    | some (.lst _) => mtLst m l
    | _ => none)
  | _ => none
def sMeth (m : Str) (f : SE) (g : SA) : SE := fun ρ st => (f ρ st).bind fun a st1 => match mtOf m a st1 with
  | some b => (g ρ st1).bind fun ds st2 => b ds st2
  | none => .stuck

/-! ### genexps handed to a built-in -/
def genL (own : List Nat) (it : SI) (g : SG) (test : ST) (elt : SE) (k : List D → Store → R D) : SE := fun ρ st => (it ρ st).bind fun w st1 => unlkR w.lk ((noExn (compC g test elt (wipeD ρ own) w.cur w.n 0 st1)).bind k)
/-- any, all: they stop early -/
def anyC (stop : Bool) (g : SG) (test : ST) (elt : SE) (ρ0 : Lc) (cur : Cur) : Nat → Nat → Store → R Bool
  | 0, _, _ => .stuck
  | n + 1, i, st => match cur i st with
    | none => .stuck
    | some none => .ok (!stop) st
    | some (some d) => match g d ρ0 with
      | none => .stuck
      | some ρ1 => (test ρ1 st).bind fun b st2 => if b then (elt ρ1 st2).bind fun y st3 => (match y with
      | .bl c => if c = stop then .ok stop st3 else anyC stop g test elt ρ0 cur n (i + 1) st3
      | _ => .stuck) else anyC stop g test elt ρ0 cur n (i + 1) st2
def sAny (stop : Bool) (own : List Nat) (it : SI) (g : SG) (test : ST) (elt : SE) : SE := fun ρ st => (it ρ st).bind fun w st1 => unlkR w.lk (noExn ((anyC stop g test elt (wipeD ρ own) w.cur w.n 0 st1).bind fun b st2 => .ok (.bl b) st2))
def sumD : List D → Int → Option Int
  | [], n => some n
  | .int i :: r, n => sumD r (n + i)
  | _, _ => none
def minD (o : CmpOp) (st : Store) (m : D) : List D → Option D
  | [] => some m
  | x :: xs => match ordN st o 60 x m with
    | some true => minD o st x xs
    | some false => minD o st m xs
    | none => none
def bSum (ds : List D) (st : Store) : R D := match ds with
  | [d] => match items st d with
    | some xs => (match sumD xs 0 with | some n => .ok (.int n) st | none => .stuck)
    | none => .stuck
  | _ => .stuck
def bMin (o : CmpOp) (ds : List D) (st : Store) : R D := match ds with
  | [d] => match items st d with
    | some (x :: xs) => (match minD o st x xs with | some d => .ok d st | none => .stuck)
    | _ => .stuck
  | x :: xs => (match minD o st x xs with | some d => .ok d st | none => .stuck)
  | _ => .stuck
/-- try: return what() / except X: return text -/
def told (txt : Str) (caught : Nat → Bool) (r : R D) : R D := match r with
  | .exn c st => if caught c then .ok (.str txt) st else .stuck
  | r => r

/-- {k: v, ..} of constants -/
def konst : Expr → Option D
  | .Constant (.int i) _ _ => some (.int i)
  | .Constant (.str x) _ _ => some (.str x)
  | .Constant (.bool b) _ _ => some (.bl b)
  | .Constant .none _ _ => some .non
  | _ => none
def konstK : List (Option Expr) → List Expr → Option (List (Key × D))
  | [], [] => some []
  | some k :: ks, v :: vs => (konst k).bind fun kd => (keyOf kd).bind fun k => (konst v).bind fun d => (konstK ks vs).map fun r => (k, d) :: r
  | _, _ => none
def sDictC (m : Bool) (kvs : List (Key × D)) : SE := fun _ st => if m then .ok (.ref st.length) (st ++ [.dK false (mergeD [] kvs)]) else .ok (.dK (mergeD [] kvs)) st
/-- any other: it is laid first, then filled -/
def sDictM (f : Lc → Store → R (List (Key × D))) : SE := fun ρ st => (f ρ (st ++ [.dK false []])).bind fun kvs st1 => match st1[st.length]? with
  | some (.dK false []) => .ok (.ref st.length) (List.set st1 st.length (.dK false (mergeD [] kvs)))
  | _ => .stuck
def binF : Operator → Option (D → D → Store → R D)
  | .Add => some dAdd
  | .Sub => some dSub
  | .Mult => some dMul
  | .FloorDiv => some dDiv
  | .Mod => some dMod
  | .Pow => some dPow
  | _ => none
def cmpF (kc : Nat → List (Str × Int)) : CmpOp → D → D → Store → R D
  | .Eq => dEq
  | .NotEq => dNe
  | .Lt => dOrd .Lt
  | .LtE => dOrd .LtE
  | .Gt => dOrd .Gt
  | .GtE => dOrd .GtE
  | .In => dIn kc false
  | .NotIn => dIn kc true
  | .Is => dIs false
  | .IsNot => dIs true
/-- the slots that a target fills -/
def slot1 (N : List Str) : Expr → List Nat
  | .Name x _ => [N.idxOf x]
  | _ => []
def slotsOf (N : List Str) : Expr → List Nat
  | .Name x _ => [N.idxOf x]
  | .Tuple es _ _ => es.flatMap (slot1 N)
  | _ => []
def stuckE {α : Type} : Lc → Store → R α := fun _ _ => .stuck
end Bk

namespace Bk
open L2 PyProof.Rows PySem.Spec PySem

/-! ## Tests, and/or, displays, slices, calls: their readings -/
section
variable {X : Cx} {G : Gl0} {W : WX}
theorem truthy_rep {μ : List Addr} {st : Store} {H : Hp} {d : D} {x : V} {b : Bool} (S : Sim G μ st H) (e : truthy st d = some b) (r : Rep G μ H d x) : TruV G.K x H b := by
  unfold truthy at e
  split at e
  · cases e; cases r; rfl
  · cases e; cases r; rfl
  · cases e; cases r; rfl
  · split at e
    · rename_i h
      cases e; cases r; exact ⟨by rw [← big_eq]; exact h, rfl⟩
    · cases e
  · split at e
    · rename_i ds e1
      cases e
      obtain ⟨p, vs, rfl, h1, h2⟩ := asTup_rep e1 r
      refine .inr (.inl ⟨vs, h1, ?_⟩)
      cases h2 <;> rfl
    · split at e
      · rename_i ds e1
        cases e
        obtain ⟨p, vs, rfl, h1, h2⟩ := asL_rep S e1 r
        refine .inl ⟨vs, SqL.of h1, ?_⟩
        cases h2 <;> rfl
      · cases e
theorem t_one {op : BoolOp} {a : Expr} {pos : Pos} {f : SE} (ha : PE X a (tE G W f)) : PE X (.BoolOp op [a] pos) (tE G W f) := pe_one ha
theorem t_and {a b : Expr} {rest : List Expr} {pos : Pos} {f g : SE} (hK : G.K = X.K) (ha : PE X a (tE G W f)) (hb : PE X (.BoolOp .And (b :: rest) pos) (tE G W g)) : PE X (.BoolOp .And (a :: b :: rest) pos) (tE G W (sAndT f g)) :=
  PEimp (pe_andT ha hb) fun σ H Q ⟨μ, ρ, st, q⟩ => ⟨μ, ρ, st, (Run.bind q).imp fun x H1 ⟨μ1, d, st1, s1, rd, q1⟩ => by
    cases e : truthy st1 d with
    | none => simp only [e] at q1; exact q1.post.elim
    | some b =>
      simp only [e] at q1
      rw [← hK]
      refine ⟨b, truthy_rep q1.sim e rd, ?_⟩
      cases b with
      | true => exact ⟨μ1, ρ, st1, q1⟩
      | false => exact q1.val rd⟩
theorem t_or {a b : Expr} {rest : List Expr} {pos : Pos} {f g : SE} (hK : G.K = X.K) (ha : PE X a (tE G W f)) (hb : PE X (.BoolOp .Or (b :: rest) pos) (tE G W g)) : PE X (.BoolOp .Or (a :: b :: rest) pos) (tE G W (sOr f g)) :=
  PEimp (pe_orT ha hb) fun σ H Q ⟨μ, ρ, st, q⟩ => ⟨μ, ρ, st, (Run.bind q).imp fun x H1 ⟨μ1, d, st1, s1, rd, q1⟩ => by
    cases e : truthy st1 d with
    | none => simp only [e] at q1; exact q1.post.elim
    | some b =>
      simp only [e] at q1
      rw [← hK]
      refine ⟨b, truthy_rep q1.sim e rd, ?_⟩
      cases b with
      | true => exact q1.val rd
      | false => exact ⟨μ1, ρ, st1, q1⟩⟩
theorem t_notT {a : Expr} {pos : Pos} {f : SE} (hK : G.K = X.K) (ha : PE X a (tE G W f)) : PE X (.UnaryOp .Not a pos) (tE G W (sNotT f)) :=
  PEimp (pe_notT ha) fun σ H Q ⟨μ, ρ, st, q⟩ => ⟨μ, ρ, st, (Run.bind q).imp fun x H1 ⟨μ1, d, st1, s1, rd, q1⟩ => by
    cases e : truthy st1 d with
    | none => simp only [e] at q1; exact q1.post.elim
    | some b =>
      simp only [e] at q1
      rw [← hK]
      exact ⟨b, truthy_rep q1.sim e rd, q1.val (.bl _)⟩⟩
/-- a test that is a value's truth -/
theorem t_truth {a : Expr} {f : SE} (hK : G.K = X.K) (ha : PE X a (tE G W f)) (he : ∀ whole, isTrue a X.env whole = (do let v ← whole; standAt a.pos; holding [v] (PySem.truthy v))) : PT X a (tT G W (tVal f)) :=
  PTimp (pt_truth ha he) fun σ H Q ⟨μ, ρ, st, q⟩ => ⟨μ, ρ, st, (Run.bind q).imp fun x H1 ⟨μ1, d, st1, s1, rd, q1⟩ => by
    cases e : truthy st1 d with
    | none => simp only [e] at q1; exact q1.post.elim
    | some b =>
      simp only [e] at q1
      rw [← hK]
      exact ⟨b, truthy_rep q1.sim e rd, q1.val rfl⟩⟩
theorem tt_not {a : Expr} {pos : Pos} {f : ST} (ha : PT X a (tT G W f)) : PT X (.UnaryOp .Not a pos) (tT G W (tNot' f)) :=
  PTimp (pt_not ha) fun σ H Q ⟨μ, ρ, st, q⟩ => ⟨μ, ρ, st, (Run.bind (rp := rpB) q).imp fun x H1 ⟨μ1, d, st1, s1, rd, q1⟩ => by
    subst rd
    exact q1.val rfl⟩
theorem tw_and1 {a : Expr} {pos : Pos} {f : ST} (ha : PT X a (tT G W f)) : PW X (.BoolOp .And [a] pos) (tT G W f) := pw_and1 ha
theorem tw_or1 {a : Expr} {pos : Pos} {f : ST} (ha : PT X a (tT G W f)) : PW X (.BoolOp .Or [a] pos) (tT G W f) := pw_or1 ha
theorem PWimp {e : Expr} {t t' : TT} (h : PW X e t) (i : ∀ σ H Q, t' σ H Q → t σ H Q) : PW X e t' := ⟨fun whole pins s σ H Q I q => h.run whole pins s σ H Q I (i _ _ _ q)⟩
theorem tw_and {a b : Expr} {rest : List Expr} {pos : Pos} {f g : ST} (ha : PT X a (tT G W f)) (hb : PW X (.BoolOp .And (b :: rest) pos) (tT G W g)) : PW X (.BoolOp .And (a :: b :: rest) pos) (tT G W (tAnd' f g)) :=
  PWimp (pw_and ha hb) fun σ H Q ⟨μ, ρ, st, q⟩ => ⟨μ, ρ, st, (Run.bind (rp := rpB) q).imp fun x H1 ⟨μ1, d, st1, s1, rd, q1⟩ => by
    subst rd
    cases d with
    | true => exact ⟨μ1, ρ, st1, q1⟩
    | false => exact q1.val rfl⟩
theorem tw_or {a b : Expr} {rest : List Expr} {pos : Pos} {f g : ST} (ha : PT X a (tT G W f)) (hb : PW X (.BoolOp .Or (b :: rest) pos) (tT G W g)) : PW X (.BoolOp .Or (a :: b :: rest) pos) (tT G W (tOr' f g)) :=
  PWimp (pw_or ha hb) fun σ H Q ⟨μ, ρ, st, q⟩ => ⟨μ, ρ, st, (Run.bind (rp := rpB) q).imp fun x H1 ⟨μ1, d, st1, s1, rd, q1⟩ => by
    subst rd
    cases d with
    | true => exact q1.val rfl
    | false => exact ⟨μ1, ρ, st1, q1⟩⟩

/-- a comparison as a test: its answer is a bool -/
def OpB (o : D → D → Store → R D) : Prop := ∀ a b st, match o a b st with
  | .ok d _ => ∃ r, d = .bl r
  | .exn _ _ => False
  | .stuck => True
theorem opB_dEq : OpB dEq := fun a b st => by
  unfold dEq
  cases dEqv st a b with
  | some r => exact ⟨r, rfl⟩
  | none => trivial
theorem opB_dNe : OpB dNe := fun a b st => by
  unfold dNe
  cases dEqv st a b with
  | some r => exact ⟨!r, rfl⟩
  | none => trivial
theorem run_bl {μ : List Addr} {ρ : Lc} {st : Store} {σ : Sl} {H : Hp} {Q : Bool → Hp → Prop} {o : D → D → Store → R D} {a b : D} (ho : OpB o) (q : Run G W rpB μ ρ st σ H Q ((o a b st).bind fun d st1 => match truthy st1 d with | some b => .ok b st1 | none => .stuck)) :
    Run G W (Rep G) μ ρ st σ H (fun x H' => ∃ k, x = .bl k ∧ Q k H') (o a b st) := by
  have h := ho a b st
  refine ⟨q.sim, q.lo, ?_⟩
  have p := q.post
  cases e : o a b st with
  | ok d st1 =>
    rw [e] at h p
    obtain ⟨r, rfl⟩ := h
    intro μ' H' v s S rv
    cases rv
    exact ⟨r, rfl, p μ' H' r s S rfl⟩
  | exn c st1 => rw [e] at h; exact h.elim
  | stuck => rw [e] at p; exact p
theorem tt_cmp {op : CmpOp} {pos : Pos} {rr : R2} {o : D → D → Store → R D} {a b : Expr} {f g : SE} (hb' : OpB o) (ho : OpR X (compareOp op) rr) (hd : OpD G o rr) (hm : behindInMarks op b = false) (ha : PE X a (tE G W f)) (hb : PE X b (tE G W g)) :
    PT X (.Compare a [op] [b] pos) (tT G W (tVal (sBin o f g))) :=
  PTimp (pt_cmpR ho ha hb hm) fun σ H Q ⟨μ, ρ, st, q⟩ => by
    have q' : Run G W rpB μ ρ st σ H Q ((f ρ st).bind fun a st1 => ((g ρ st1).bind fun b st2 => (o a b st2).bind fun d st3 => match truthy st3 d with | some b => .ok b st3 | none => .stuck)) := by
      have e : (tVal (sBin o f g)) ρ st = ((f ρ st).bind fun a st1 => ((g ρ st1).bind fun b st2 => (o a b st2).bind fun d st3 => match truthy st3 d with | some b => .ok b st3 | none => .stuck)) := by
        unfold tVal sBin
        cases f ρ st with
        | ok a st1 =>
          show R.bind (R.bind (g ρ st1) _) _ = R.bind (g ρ st1) _
          cases g ρ st1 <;> rfl
        | exn c st1 => rfl
        | stuck => rfl
      rw [e] at q
      exact q
    exact ⟨μ, ρ, st, (Run.bind q').imp fun x H1 ⟨μ1, a, st1, s1, ra, q1⟩ => ⟨μ1, ρ, st1, (Run.bind q1).imp fun y H2 ⟨μ2, b, st2, s2, rb, q2⟩ => hd (run_bl hb' q2) (ra.step s2) rb⟩⟩
end
end Bk

namespace Bk
open L2 PyProof.Rows PySem.Spec PySem

/-! ## What is still being made: hidden places -/
abbrev Gl0.wh (G : Gl0) (h : List Addr) : Gl0 := { G with hid := h }
abbrev Gl0.hide (G : Gl0) (p : Addr) : Gl0 := G.wh (p :: G.hid)
section
variable {G : Gl0} {h h' : List Addr} {μ μ' : List Addr} {H H' : Hp}
/-- what carries a value over -/
structure Cary (h : List Addr) (μ : List Addr) (H : Hp) (h' : List Addr) (μ' : List Addr) (H' : Hp) : Prop where
  fz : ∀ a o, a ∉ μ → a ∉ h → H a = some o → Fx o → (a ∉ μ' ∧ a ∉ h') ∧ H' a = some o
  fzD : ∀ a o, a ∉ μ → a ∉ h → H a = some o → Dic o → (a ∉ μ' ∧ a ∉ h') ∧ Rd H' a o
  at' : ∀ (l : Nat) (a : Addr), μ[l]? = some a → μ'[l]? = some a
theorem Cary.mk' (f : ∀ a o, a ∉ μ → a ∉ h → H a = some o → (a ∉ μ' ∧ a ∉ h') ∧ H' a = some o) (g : ∀ (l : Nat) (a : Addr), μ[l]? = some a → μ'[l]? = some a) : Cary h μ H h' μ' H' :=
  ⟨fun a o h1 h2 e _ => f a o h1 h2 e, fun a o h1 h2 e _ => ⟨(f a o h1 h2 e).1, .inl (f a o h1 h2 e).2⟩, g⟩
theorem Cary.rd (c : Cary h μ H h' μ' H') {a : Addr} {u : HO} (hf : Fz (G.wh h) μ a) (hu : ∀ ps, u ≠ .tbl ps) (r : Rd H a u) : Fz (G.wh h') μ' a ∧ Rd H' a u := by
  rcases r with e | ⟨o, e⟩
  · cases u with
    | tbl ps => exact absurd rfl (hu ps)
    | dK kvs => exact c.fzD a _ hf.1 hf.2 e trivial
    | dT kvs => exact c.fzD a _ hf.1 hf.2 e trivial
    | _ =>
      obtain ⟨h1, h2⟩ := c.fz a _ hf.1 hf.2 e trivial
      exact ⟨h1, .inl h2⟩
  · obtain ⟨h1, h2⟩ := c.fz a _ hf.1 hf.2 e trivial
    exact ⟨h1, .inr ⟨o, h2⟩⟩
mutual
theorem Rep.cary (c : Cary h μ H h' μ' H') : ∀ (d : D) (v : V), Rep (G.wh h) μ H d v → Rep (G.wh h') μ' H' d v
  | .non, _, h => by cases h; exact .non
  | .bl b, _, h => by cases h; exact .bl b
  | .int i, _, h => by cases h; exact .int i
  | .str x, _, h => by cases h; exact .str x
  | .tup ds, _, h => by
    cases h with
    | tup h0 h1 h2 =>
      have q := c.fz _ _ h0.1 h0.2 h1 trivial
      exact .tup q.1 q.2 (RepL.cary c ds _ h2)
  | .ktup ds, _, h => by
    cases h with
    | ktup h1 h2 => exact .ktup h1 (RepL.cary c ds _ h2)
  | .lst ds, _, h => by
    cases h with
    | lst h0 h1 h2 =>
      have q := c.fz _ _ h0.1 h0.2 h1 trivial
      exact .lst q.1 q.2 (RepL.cary c ds _ h2)
  | .dK kvs, _, h => by
    cases h with
    | dK h0 h1 h2 =>
      have q := c.rd (G := G) h0 (fun _ z => by cases z) h1
      exact .dK q.1 q.2 (RepP.cary c kvs _ h2)
  | .dT kvs, _, h => by
    cases h with
    | dT h0 h1 h2 =>
      have q := c.rd (G := G) h0 (fun _ z => by cases z) h1
      exact .dT q.1 q.2 (RepQ.cary c kvs _ h2)
  | .ref l, _, h => by
    cases h with
    | ref e => exact .ref (c.at' _ _ e)
  | .clo _ _, _, h => by
    cases h with
    | clo h0 e h1 e1 =>
      have q := c.fz _ _ h0.1 h0.2 e trivial
      have q1 := c.fz _ _ h1.1 h1.2 e1 trivial
      exact .clo q.1 q.2 q1.1 q1.2
  | .scr ns, _, h => by
    cases h with
    | scr h0 h1 =>
      have q := c.rd (G := G) h0 (fun _ z => by cases z) h1
      exact .scr q.1 q.2
    | scrK h => exact .scrK h
  | .kd i, _, h => by cases h; exact .kd i
theorem RepL.cary (c : Cary h μ H h' μ' H') : ∀ (ds : List D) (vs : List V), RepL (G.wh h) μ H ds vs → RepL (G.wh h') μ' H' ds vs
  | [], _, h => by cases h; exact .nil
  | d :: ds, _, h => by
    cases h with
    | cons h1 h2 => exact .cons (Rep.cary c d _ h1) (RepL.cary c ds _ h2)
theorem RepP.cary (c : Cary h μ H h' μ' H') : ∀ (ds : List (Key × D)) (vs : List (Key × V)), RepP (G.wh h) μ H ds vs → RepP (G.wh h') μ' H' ds vs
  | [], _, h => by cases h; exact .nil
  | (k, d) :: ds, _, h => by
    cases h with
    | cons h1 h2 => exact .cons (Rep.cary c d _ h1) (RepP.cary c ds _ h2)
theorem RepQ.cary (c : Cary h μ H h' μ' H') : ∀ (ds : List (List Key × D)) (vs : List (List Key × V)), RepQ (G.wh h) μ H ds vs → RepQ (G.wh h') μ' H' ds vs
  | [], _, h => by cases h; exact .nil
  | (k, d) :: ds, _, h => by
    cases h with
    | cons h1 h2 => exact .cons (Rep.cary c d _ h1) (RepQ.cary c ds _ h2)
end
theorem ObjR.cary {a : Addr} {o : SObj} (c : Cary h μ H h' μ' H') (e : H' a = H a) (r : ObjR (G.wh h) μ H a o) : ObjR (G.wh h') μ' H' a o := by
  cases o with
  | lst ds => obtain ⟨vs, e1, r⟩ := r; exact ⟨vs, e.trans e1, r.cary c _ _⟩
  | dK lk kvs =>
    obtain ⟨vs, e1, e2, r⟩ := r
    exact ⟨vs, fun z => e.trans (e1 z), fun z => let ⟨o, q⟩ := e2 z; ⟨o, e.trans q⟩, r.cary c _ _⟩
  | dT lk kvs =>
    obtain ⟨vs, e1, e2, r⟩ := r
    exact ⟨vs, fun z => e.trans (e1 z), fun z => let ⟨o, q⟩ := e2 z; ⟨o, e.trans q⟩, r.cary c _ _⟩
  | ins c' fs => obtain ⟨dx, vs, e1, e2, r⟩ := r; exact ⟨dx, vs, e.trans e1, e2, r.cary c _ _⟩
theorem Lo.cary {ρ : Lc} {σ : Sl} (c : Cary h μ H h' μ' H') (l : Lo (G.wh h) μ ρ σ H) : Lo (G.wh h') μ' ρ σ H' := ⟨l.len, fun i d e => let ⟨v, h1, h2⟩ := l.at' i d e; ⟨v, h1, h2.cary c _ _⟩⟩

variable {st : Store} {p : Addr} {u : HO}
theorem cary_hide (n : H p = none) : Cary G.hid μ H (p :: G.hid) μ (upd H p u) := Cary.mk' (fun a o h1 h2 e => by
    have ne : a ≠ p := ne_of_none e n
    exact ⟨⟨h1, fun hm => (List.mem_cons.mp hm).elim ne h2⟩, by rw [upd_ne ne]; exact e⟩) fun _ _ e => e
theorem cary_upd (hp : p ∈ h) : Cary h μ H h μ (upd H p u) := Cary.mk' (fun a o h1 h2 e => by
    have ne : a ≠ p := fun z => h2 (z ▸ hp)
    exact ⟨⟨h1, h2⟩, by rw [upd_ne ne]; exact e⟩) fun _ _ e => e
theorem cary_show : Cary (p :: G.hid) μ H G.hid μ H := Cary.mk' (fun a o h1 h2 e => ⟨⟨h1, fun z => h2 (List.mem_cons_of_mem _ z)⟩, e⟩) fun _ _ e => e
theorem cary_thaw : Cary (p :: G.hid) μ H G.hid (μ ++ [p]) H := Cary.mk' (fun a o h1 h2 e => ⟨⟨fun hm => by
    rcases List.mem_append.mp hm with z | z
    · exact h1 z
    · exact h2 (List.mem_singleton.mp z ▸ List.mem_cons_self ..), fun z => h2 (List.mem_cons_of_mem _ z)⟩, e⟩) fun l a e => by rw [List.getElem?_append_left (List.getElem?_eq_some_iff.mp e).1]; exact e

theorem Sim.hide (S : Sim G μ st H) (n : H p = none) (lv : Liv u) : Sim (G.hide p) μ st (upd H p u) where
  len := S.len
  nd := S.nd
  obj := fun l o a h1 h2 => ObjR.cary (G := G) (h := G.hid) (h' := p :: G.hid) (cary_hide n) (upd_ne (fun z => S.fresh n (z ▸ List.mem_of_getElem? h2))) (S.obj l o a h1 h2)
  tab := fun q hq => (show TabOk G (upd H p u) q.1 q.2 from (S.tab q hq).step (μ := μ) (μ' := μ) S (step_new n) (upd_ne (fun z => by
    obtain ⟨ps, e, _⟩ := S.tab q hq
    rw [z, n] at e
    cases e)))
  hid := fun a ha => by
    rcases List.mem_cons.mp ha with rfl | ha
    · exact ⟨S.fresh n, u, upd_same, lv⟩
    · obtain ⟨h1, w, h2, h3⟩ := S.hid a ha
      exact ⟨h1, w, by rw [upd_ne (ne_of_none h2 n)]; exact h2, h3⟩
theorem Sim.show' (S : Sim (G.hide p) μ st H) : Sim G μ st H where
  len := S.len
  nd := S.nd
  obj := fun l o a h1 h2 => ObjR.cary (G := G) (h := p :: G.hid) (h' := G.hid) cary_show rfl (S.obj l o a h1 h2)
  tab := S.tab
  hid := fun a ha => S.hid a (List.mem_cons_of_mem _ ha)
theorem Sim.updH (S : Sim (G.wh h) μ st H) (hp : p ∈ h) (lu : Liv u) : Sim (G.wh h) μ st (upd H p u) := by
  obtain ⟨hn, w, hw, lw⟩ := S.hid p hp
  refine ⟨S.len, S.nd, fun l o a h1 h2 => ObjR.cary (G := G) (cary_upd hp) (upd_ne (fun z => hn (z ▸ List.mem_of_getElem? h2))) (S.obj l o a h1 h2), fun q hq => ?_, fun a ha => ?_⟩
  · obtain ⟨ps, e, h2, h3⟩ := S.tab q hq
    have ne : ∀ (a : Addr) (o : HO), H a = some o → ¬ Liv o → a ≠ p := fun a o e n z => by subst z; rw [hw] at e; cases e; exact n lw
    refine ⟨ps, by rw [upd_ne (ne _ _ e (fun z => z))]; exact e, h2, fun pos cv hc hl => ?_⟩
    obtain ⟨c, e1, e2⟩ := h3 pos cv hc hl
    exact ⟨c, e1, by rw [upd_ne (ne _ _ e2 (fun z => z))]; exact e2⟩
  · obtain ⟨h1, w', h2, h3⟩ := S.hid a ha
    by_cases z : a = p
    · subst z; exact ⟨h1, u, upd_same, lu⟩
    · exact ⟨h1, w', by rw [upd_ne z]; exact h2, h3⟩
/-- what was being made is an object now -/
theorem Sim.thaw {o : SObj} (S : Sim (G.hide p) μ st H) (hf : p ∉ G.hid) (ho : ObjR G (μ ++ [p]) H p o) : Sim G (μ ++ [p]) (st ++ [o]) H where
  len := by simp [S.len]
  nd := by
    rw [List.nodup_append]
    refine ⟨S.nd, by simp, fun a ha b hb e => ?_⟩
    rw [List.mem_singleton.mp hb] at e
    exact (S.hid p (List.mem_cons_self ..)).1 (e ▸ ha)
  obj := fun l o' a h1 h2 => by
    have h1 : (st ++ [o])[l]? = some o' := h1
    by_cases hl : l < st.length
    · have hm : l < μ.length := by rw [S.len]; exact hl
      rw [List.getElem?_append_left hl] at h1
      rw [List.getElem?_append_left hm] at h2
      exact ObjR.cary (G := G) (h := p :: G.hid) (h' := G.hid) cary_thaw rfl (S.obj l o' a h1 h2)
    · have hm : ¬ l < μ.length := by rw [S.len]; exact hl
      rw [List.getElem?_append_right (Nat.le_of_not_lt hl)] at h1
      rw [List.getElem?_append_right (Nat.le_of_not_lt hm)] at h2
      have z : l - st.length = 0 := by
        have := (List.getElem?_eq_some_iff.mp h1).1
        simp at this
        omega
      have z2 : l - μ.length = 0 := by rw [S.len]; exact z
      rw [z] at h1
      rw [z2] at h2
      simp at h1 h2
      subst h1 h2
      exact ho
  tab := S.tab
  hid := fun a ha => by
    obtain ⟨h1, w⟩ := S.hid a (List.mem_cons_of_mem _ ha)
    refine ⟨fun hm => ?_, w⟩
    rcases List.mem_append.mp hm with z | z
    · exact h1 z
    · exact hf (List.mem_singleton.mp z ▸ ha)
end
end Bk

namespace Bk
open L2 PyProof.Rows PySem.Spec PySem

/-! ## Chains, arguments, displays, slices, subscripts, calls -/
def star' : Expr → Bool
  | .Starred .. => true
  | _ => false
theorem starEach_cons {e : Expr} {es : List Expr} {env : Env} (h : star' e = false) : starEach (e :: es) env = (false, eval e env) :: starEach es env := by
  cases e <;> first | rfl | cases h
theorem starEach_any {es : List Expr} {env : Env} {pos : Pos} (h : es.any star' = false) : (backTo pos (starEach es env)).any (·.1) = false := by
  induction es with
  | nil => rfl
  | cons e es ih =>
    rw [List.any_cons, Bool.or_eq_false_iff] at h
    rw [starEach_cons h.1]
    show (false || (backTo pos (starEach es env)).any (·.1)) = false
    rw [ih h.2]
    rfl
section
variable {X : Cx} {G : Gl0} {W : WX}
theorem dec_len {n : Nat} (h : n ≤ big) : n ≤ sizeLine := by rw [← big_eq]; exact h
theorem t_chain {op op' : CmpOp} {pos : Pos} {rr rr' : R2} {o o' : D → D → Store → R D} {a b c : Expr} {f g h : SE} (ho : OpR X (compareOp op) rr) (ho' : OpR X (compareOp op') rr') (hb1 : OpB o) (hd : OpD G o rr) (hd' : OpD G o' rr')
    (ha : PE X a (tE G W f)) (hb : PE X b (tE G W g)) (hc : PE X c (tE G W h)) (hm : lastMarks [op, op'] [b, c] = false) : PE X (.Compare a [op, op'] [b, c] pos) (tE G W (sChain o o' f g h)) :=
  PEimp (pe_chain ho ho' ha hb hc hm) fun σ H Q ⟨μ, ρ, st, q⟩ => ⟨μ, ρ, st, (Run.bind q).imp fun x H1 ⟨μ1, a, st1, s1, ra, q1⟩ => ⟨μ1, ρ, st1, (Run.bind q1).imp fun y H2 ⟨μ2, b, st2, s2, rb, q2⟩ => by
    refine hd (W := W) (ρ := ρ) (μ := μ2) (σ := σ) (st := st2) ?_ (ra.step s2 _ _) rb
    have h1 := hb1 a b st2
    refine (Run.bind q2).imp fun z H3 ⟨μ3, r, st3, s3, rr3, q3⟩ => ?_
    cases rr3 with
    | bl k =>
      refine ⟨k, rfl, ?_⟩
      cases k with
      | true => exact ⟨μ3, ρ, st3, (Run.bind q3).imp fun w H4 ⟨μ4, c, st4, s4, rc, q4⟩ => hd' q4 (rb.step (s3.trans s4) _ _) rc⟩
      | false => exact q3.val (.bl _)
    | _ => exact q3.post.elim⟩⟩
theorem t_nil : PA X [] (tA G W sNil) := PAimp pa_nil fun σ H Q ⟨μ, ρ, st, q⟩ => q.val .nil
theorem t_cons {e : Expr} {es : List Expr} {f : SE} {g : SA} (hs : star' e = false) (ha : PE X e (tE G W f)) (hr : PA X es (tA G W g)) : PA X (e :: es) (tA G W (sCons f g)) :=
  PAimp (pa_cons ha hr (starEach_cons hs)) fun σ H Q ⟨μ, ρ, st, q⟩ => ⟨μ, ρ, st, (Run.bind q).imp fun x H1 ⟨μ1, a, st1, s1, ra, q1⟩ => ⟨μ1, ρ, st1, (Run.bind q1).imp fun xs H2 ⟨μ2, as, st2, s2, ras, q2⟩ => q2.val (.cons (ra.step s2 _ _) ras)⟩⟩
theorem run_mkL {m : Bool} {μ : List Addr} {ρ : Lc} {st : Store} {σ : Sl} {H : Hp} {Q : VK} {ds : List D} {xs : List V} (q : Run G W (Rep G) μ ρ st σ H Q (mkL m ds st)) (r : RepL G μ H ds xs) :
    xs.length ≤ sizeLine ∧ ∀ p, H p = none → Q (.ref p) (upd H p (.lst xs)) := by
  unfold mkL at q
  split at q
  · rename_i hl
    refine ⟨by rw [← r.len]; exact dec_len hl, fun p n => ?_⟩
    cases m with
    | false => exact q.new n (Rep.newL q.sim n r)
    | true =>
      refine q.newM n ⟨xs, upd_same, r.step (step_newM n) _ _⟩ (.ref ?_)
      rw [← q.sim.len]; simp
  · exact q.post.elim
theorem t_lst {m : Bool} {es : List Expr} {pos : Pos} {g : SA} (h : PA X es (tA G W g)) : PE X (.List es pos) (tE G W fun ρ st => (g ρ st).bind fun ds st1 => mkL m ds st1) :=
  PEimp (pe_lst h) fun σ H Q ⟨μ, ρ, st, q⟩ => ⟨μ, ρ, st, (Run.bind q).imp fun xs H1 ⟨μ1, ds, st1, s1, r, q1⟩ => run_mkL q1 r⟩
theorem t_tup {x1 : _} {es : List Expr} {pos : Pos} {g : SA} (h : PA X es (tA G W g)) : PE X (.Tuple es x1 pos) (tE G W fun ρ st => (g ρ st).bind fun ds st1 => mkT ds st1) :=
  PEimp (pe_tup h) fun σ H Q ⟨μ, ρ, st, q⟩ => ⟨μ, ρ, st, (Run.bind q).imp fun xs H1 ⟨μ1, ds, st1, s1, r, q1⟩ => by
    unfold mkT at q1
    split at q1
    · rename_i hl
      exact ⟨by rw [← r.len]; exact dec_len hl, fun p n => q1.new n (Rep.newT q1.sim n r)⟩
    · exact q1.post.elim⟩
/-! slices -/
abbrev tO' (G : Gl0) (W : WX) (f : SP) : TO := tG G W (fun _ _ a b => a = b) f
theorem POimp {e : Option Expr} {t t' : TO} (h : PO X e t) (i : ∀ σ H Q, t' σ H Q → t σ H Q) : PO X e t' := ⟨fun pins s σ H Q I q => h.run pins s σ H Q I (i _ _ _ q)⟩
theorem t_pnone : PO X none (tO' G W pNone) := POimp po_none fun σ H Q ⟨μ, ρ, st, q⟩ => q.val rfl
theorem t_psome {e : Expr} {f : SE} (h : PE X e (tE G W f)) : PO X (some e) (tO' G W (pSome f)) := POimp (po_some h) fun σ H Q ⟨μ, ρ, st, q⟩ => ⟨μ, ρ, st, (Run.bind q).imp fun x H1 ⟨μ1, a, st1, s1, ra, q1⟩ => by
  cases ra with
  | int i => exact ⟨i, rfl, q1.val rfl⟩
  | _ => exact q1.post.elim⟩
def rSlX (K : PySem.W.Frag) : V → Option Int → Option Int → Hp → VK → Prop := fun x lo hi H Q => rSlS x lo hi H Q ∨ rSlA K x lo hi H Q ∨ rSlL K x lo hi H Q
theorem sl_X : SlR X (rSlX X.K) := fun pins s σ H x v vl vu lo hi sl Q I r1 r2 r3 r4 h => h.elim (sl_str pins s σ H x v vl vu lo hi sl Q I r1 r2 r3 r4) fun h => h.elim (sl_tupA pins s σ H x v vl vu lo hi sl Q I r1 r2 r3 r4) (sl_list pins s σ H x v vl vu lo hi sl Q I r1 r2 r3 r4)
theorem RepL.drop {μ : List Addr} {H : Hp} {ds : List D} {xs : List V} (r : RepL G μ H ds xs) (n : Nat) : RepL G μ H (ds.drop n) (xs.drop n) := by
  induction n generalizing ds xs with
  | zero => exact r
  | succ n ih => cases r with
    | nil => exact .nil
    | cons h t => exact ih t
theorem RepL.take {μ : List Addr} {H : Hp} {ds : List D} {xs : List V} (r : RepL G μ H ds xs) (n : Nat) : RepL G μ H (ds.take n) (xs.take n) := by
  induction n generalizing ds xs with
  | zero => exact .nil
  | succ n ih => cases r with
    | nil => exact .nil
    | cons h t => exact .cons h (ih t)
theorem RepL.cut {μ : List Addr} {H : Hp} {ds : List D} {xs : List V} (r : RepL G μ H ds xs) (lo hi : Option Int) : RepL G μ H (cutD ds lo hi) (cutV xs lo hi) := by
  unfold cutD cutV
  rw [r.len]
  exact (r.drop _).take _
theorem Rep.scrAt {μ : List Addr} {H : Hp} {ns : List Int} {x : V} (r : Rep G μ H (.scr ns) x) : ∃ p, x = .ref p ∧ SqL G.K H p (ns.map V.int) ∧ RepL G μ H (ns.map D.int) (ns.map V.int) := by
  have z : ∀ ns : List Int, RepL G μ H (ns.map D.int) (ns.map V.int) := fun ns => by
    induction ns with
    | nil => exact .nil
    | cons n ns ih => exact .cons (.int n) ih
  cases r with
  | scr h0 h1 => exact ⟨_, rfl, .inl h1, z ns⟩
  | scrK h => exact ⟨_, rfl, .inr h, z ns⟩
theorem run_mkF {m : Bool} {μ : List Addr} {ρ : Lc} {st : Store} {σ : Sl} {H : Hp} {Q : VK} {ds : List D} {xs : List V} (q : Run G W (Rep G) μ ρ st σ H Q (mkF m ds st)) (r : RepL G μ H ds xs) :
    ∀ p, H p = none → Q (.ref p) (upd H p (.lst xs)) := by
  unfold mkF at q
  intro p n
  cases m with
  | false => exact q.new n (Rep.newL q.sim n r)
  | true =>
    refine q.newM n ⟨xs, upd_same, r.step (step_newM n) _ _⟩ (.ref ?_)
    rw [← q.sim.len]; simp
theorem d_slice {m : Bool} {K : PySem.W.Frag} (hK : G.K = K) {μ : List Addr} {ρ : Lc} {st : Store} {σ : Sl} {H : Hp} {a : D} {x : V} {lo hi : Option Int} {Q : VK} (q : Run G W (Rep G) μ ρ st σ H Q (dSlice m a lo hi st)) (ra : Rep G μ H a x) : rSlX K x lo hi H Q := by
  subst hK
  have L : ∀ a, Rep G μ H a x → ∀ ds, asL st a = some ds → Run G W (Rep G) μ ρ st σ H Q (mkF m (cutD ds lo hi) st) → rSlX G.K x lo hi H Q := fun a ra ds e q => by
    obtain ⟨p, vs, rfl, h1, h2⟩ := asL_rep q.sim e ra
    exact .inr (.inr ⟨p, vs, rfl, SqL.of h1, run_mkF q (h2.cut lo hi)⟩)
  unfold dSlice at q
  split at q
  · split at q
    · rename_i h
      cases ra
      exact .inl ⟨_, rfl, dec_len h, q.val (.str _)⟩
    · exact q.post.elim
  · obtain ⟨p, rfl, h1, h2⟩ := ra.scrAt
    exact .inr (.inr ⟨p, _, rfl, h1, run_mkF q (h2.cut lo hi)⟩)
  · rename_i ds
    cases ra with
    | tup h0 h1 h2 =>
      refine .inr (.inl ⟨_, _, rfl, .inl (.inl h1), fun hw => ?_, fun _ p n => q.new n (Rep.newT q.sim n (h2.cut lo hi))⟩)
      have e : cutD ds lo hi = ds := by
        unfold cutD
        rw [h2.len, hw.1, hw.2, ← h2.len]
        simp
      rw [e] at q
      exact q.val (.tup h0 h1 h2)
  · split at q
    · rename_i ds e
      exact L _ ra ds e q
    · exact q.post.elim
theorem t_slice {m : Bool} {a : Expr} {lo hi : Option Expr} {p2 pos : Pos} {f : SE} {l h : SP} (hK : G.K = X.K) (ha : PE X a (tE G W f)) (hl : PO X lo (tO' G W l)) (hh : PO X hi (tO' G W h)) : PE X (.Subscript a (.Slice lo hi none p2) pos) (tE G W (sSlice m f l h)) :=
  PEimp (pe_slice sl_X ha hl hh) fun σ H Q ⟨μ, ρ, st, q⟩ => ⟨μ, ρ, st, (Run.bind q).imp fun x H1 ⟨μ1, a, st1, s1, ra, q1⟩ => ⟨μ1, ρ, st1, (Run.bind (rp := fun _ _ a b => a = b) q1).imp fun y H2 ⟨μ2, b, st2, s2, rb, q2⟩ => ⟨μ2, ρ, st2, (Run.bind (rp := fun _ _ a b => a = b) q2).imp fun z H3 ⟨μ3, c, st3, s3, rc, q3⟩ => by
    subst rb rc
    exact d_slice hK q3 (ra.step (s2.trans s3) _ _)⟩⟩⟩
theorem RepL.reverse {μ : List Addr} {H : Hp} {ds : List D} {xs : List V} (r : RepL G μ H ds xs) : RepL G μ H ds.reverse xs.reverse := by
  induction ds generalizing xs with
  | nil => cases r; exact .nil
  | cons d ds ih => cases r with
    | cons h r => rw [List.reverse_cons, List.reverse_cons]; exact (ih r).app (.cons h .nil)
theorem t_rev {m : Bool} {e : Expr} {k : Nat} {p1 p2 p3 pos : Pos} {f : SE} (hK : G.K = X.K) (ha : PE X e (tE G W f)) : PE X (.Subscript e (.Slice none none (some (.UnaryOp .USub (.Constant (.int 1) k p1) p2)) p3) pos) (tE G W (sUn (dRev m) f)) :=
  PEimp (pe_revL ha) fun σ H Q ⟨μ, ρ, st, q⟩ => ⟨μ, ρ, st, (Run.bind q).imp fun x H1 ⟨μ1, a, st1, s1, ra, q1⟩ => by
    rw [← hK]
    have q1 : Run G W (Rep G) μ1 ρ st1 σ H1 Q (dRev m a st1) := q1
    unfold dRev at q1
    split at q1
    · obtain ⟨p, rfl, h1, h2⟩ := ra.scrAt
      exact ⟨p, _, rfl, h1, run_mkF q1 h2.reverse⟩
    · split at q1
      · rename_i ds e
        obtain ⟨p, vs, rfl, h1, h2⟩ := asL_rep q1.sim e ra
        exact ⟨p, vs, rfl, SqL.of h1, run_mkF q1 h2.reverse⟩
      · exact q1.post.elim⟩
/-! subscripts -/
def slice' : Expr → Bool
  | .Slice .. => true
  | _ => false
theorem plainIx_of {b : Expr} (h : slice' b = false) : PlainIx b := fun o i => by
  cases b <;> first | rfl | cases h
theorem t_ix {a b : Expr} {pos : Pos} {f g : SE} (hK : G.K = X.K) (hu : X.A.units + 1 < cLine) (kdOk : ∀ i, (G.kdC i) ≠ [] → KdOk G X.w i) (ha : PE X a (tE G W f)) (hb : PE X b (tE G W g)) (hs : slice' b = false) :
    PE X (.Subscript a b pos) (tE G W (sBin (dIx G.kdC) f g)) :=
  PEimp (pe_ix (ix_U hu) ha hb (plainIx_of hs)) fun σ H Q ⟨μ, ρ, st, q⟩ => ⟨μ, ρ, st, (Run.bind q).imp fun x H1 ⟨μ1, a, st1, s1, ra, q1⟩ => ⟨μ1, ρ, st1, (Run.bind q1).imp fun y H2 ⟨μ2, b, st2, s2, rb, q2⟩ => by
    have := d_ix (G := G) (w := X.w) kdOk q2 (ra.step s2 _ _) rb
    rw [hK] at this
    exact this⟩⟩
/-! calls -/
/-- what a callable of the machine asks -/
def CbD (G : Gl0) (b : Fn) (r : List V → Hp → VK → Prop) : Prop := ∀ {W : WX} {μ ρ st σ H ds xs Q}, Run G W (Rep G) μ ρ st σ H Q (b ds st) → RepL G μ H ds xs → r xs H Q
theorem t_cb {b : Fn} {r : List V → Hp → VK → Prop} {g : SA} {σ : Sl} {H : Hp} {Q : VK} (hd : CbD G b r) (q : tE G W (sCall b g) σ H Q) : tCB r (tA G W g) σ H Q := by
  obtain ⟨μ, ρ, st, q⟩ := q
  exact ⟨μ, ρ, st, (Run.bind q).imp fun xs H1 ⟨μ1, ds, st1, s1, rd, q1⟩ => hd q1 rd⟩
/-- a call of the name x, whatever the arguments -/
def CallOk (X : Cx) (G : Gl0) (W : WX) (x : Str) (b : Fn) : Prop := ∀ (p pos : Pos) (args : List Expr) (g : SA), args.any star' = false → args ≠ [] → PA X args (tA G W g) → PE X (.Call (.Name x p) args [] pos) (tE G W (sCall b g))
theorem ok_callB {x : Str} {id : String} {b : Fn} {r : List V → Hp → VK → Prop} (hc : CallR X (.builtin id) r) (hd : CbD G b r) (hg : Gl X x) (hm : X.mg x = none) (hv : bootBuiltins x = some (.builtin id)) (hn : x ≠ "__name__") (hdb : (x == ("__debug__" : Str)) = false) : CallOk X G W x b := by
  intro p pos args g hs h0 ha
  cases args with
  | nil => exact absurd rfl h0
  | cons e es =>
    rw [List.any_cons, Bool.or_eq_false_iff] at hs
    exact PEimp (pe_callB hc hg hm hv ha hn hdb (starEach_cons hs.1) (starEach_any hs.2)) fun σ H Q q => t_cb hd q
theorem ok_callTy {x : Str} {T : String} {b : Fn} {r : List V → Hp → VK → Prop} (hc : CallR X (.type T) r) (hd : CbD G b r) (hg : Gl X x) (hm : X.mg x = none) (hv : bootBuiltins x = some (.type T)) (hn : x ≠ "__name__") (hdb : (x == ("__debug__" : Str)) = false) : CallOk X G W x b := by
  intro p pos args g hs h0 ha
  cases args with
  | nil => exact absurd rfl h0
  | cons e es =>
    rw [List.any_cons, Bool.or_eq_false_iff] at hs
    exact PEimp (pe_callTy hc hg hm hv ha hn hdb (starEach_cons hs.1) (starEach_any hs.2)) fun σ H Q q => t_cb hd q
end
end Bk

namespace Bk
open L2 PyProof.Rows PySem.Spec PySem

/-! ## Built-ins and methods -/
section
variable {X : Cx} {G : Gl0}
theorem RepL.one {μ : List Addr} {H : Hp} {d : D} {xs : List V} (r : RepL G μ H [d] xs) : ∃ x, xs = [x] ∧ Rep G μ H d x := by
  cases r with
  | cons h t => cases t; exact ⟨_, rfl, h⟩
theorem RepL.nil' {μ : List Addr} {H : Hp} {xs : List V} (r : RepL G μ H [] xs) : xs = [] := by cases r; rfl
def rLenX (K : PySem.W.Frag) : List V → Hp → VK → Prop := fun xs H Q => (∃ x n, xs = [x] ∧ LenV K x H n ∧ Q (.int n) H) ∨ ∃ a kvs, xs = [V.ref a] ∧ H a = some (.dK kvs) ∧ Q (.int kvs.length) H
theorem call_lenX : CallR X (.builtin "len") (rLenX X.K) := CallR.or call_len call_lenD
theorem cb_len {K : PySem.W.Frag} (hK : G.K = K) : CbD G bLen (rLenX K) := by
  intro W μ ρ st σ H ds xs Q q r
  subst hK
  unfold bLen at q
  split at q
  · split at q
    · rename_i h
      obtain ⟨x, rfl, r1⟩ := r.one
      cases r1
      exact .inl ⟨_, _, rfl, (show LenV G.K (.str _) H _ from ⟨dec_len h, rfl⟩), q.val (.int _)⟩
    · exact q.post.elim
  · rename_i d _
    obtain ⟨x, rfl, r1⟩ := r.one
    split at q
    · rename_i ds e
      obtain ⟨p, vs, rfl, h1, h2⟩ := asTup_rep e r1
      exact .inl ⟨_, _, rfl, (show LenV G.K (.ref _) H _ from .inr ⟨vs, h1, h2.len⟩), q.val (.int _)⟩
    · split at q
      · rename_i ds e
        obtain ⟨p, vs, rfl, h1, h2⟩ := asL_rep q.sim e r1
        exact .inl ⟨_, _, rfl, (show LenV G.K (.ref _) H _ from .inl ⟨vs, SqL.of h1, h2.len⟩), q.val (.int _)⟩
      · exact q.post.elim
  · exact q.post.elim
theorem cb_abs : CbD G bAbs (fun xs H Q => ∃ i, xs = [.int i] ∧ Q (.int (if i < 0 then -i else i)) H) := by
  intro W μ ρ st σ H ds xs Q q r
  unfold bAbs at q
  split at q
  · obtain ⟨x, rfl, r1⟩ := r.one
    cases r1
    exact ⟨_, rfl, q.val (.int _)⟩
  · exact q.post.elim
def rIntX : List V → Hp → VK → Prop := fun xs H Q => ((∃ i, xs = [.int i] ∧ Q (.int i) H) ∨ ∃ k, xs = [.bl k] ∧ Q (.int (if k then 1 else 0)) H) ∨ ∃ a n, xs = [.str a] ∧ PySem.intText? a = some n ∧ a.length ≤ 640 ∧ Q (.int n) H
theorem call_intX : CallR X (.type "int") rIntX := CallR.or call_int1 call_int_str
theorem cb_int : CbD G bInt rIntX := by
  intro W μ ρ st σ H ds xs Q q r
  unfold bInt at q
  split at q
  · obtain ⟨x, rfl, r1⟩ := r.one
    cases r1
    exact .inl (.inl ⟨_, rfl, q.val (.int _)⟩)
  · obtain ⟨x, rfl, r1⟩ := r.one
    cases r1
    exact .inl (.inr ⟨_, rfl, q.val (.int _)⟩)
  · split at q
    · split at q
      · rename_i h _ n e
        obtain ⟨x, rfl, r1⟩ := r.one
        cases r1
        exact .inr ⟨_, _, rfl, e, h, q.val (.int _)⟩
      · exact q.post.elim
    · exact q.post.elim
  · exact q.post.elim
def rStrX : List V → Hp → VK → Prop := fun xs H Q => (∃ i, xs = [.int i] ∧ i.natAbs.log2 < 1920 ∧ Q (.str (toString i)) H) ∨ ∃ a, xs = [.str a] ∧ Q (.str a) H
theorem call_strX : CallR X (.type "str") rStrX := CallR.or call_str_int SkE.call_str_str
theorem cb_str : CbD G bStr rStrX := by
  intro W μ ρ st σ H ds xs Q q r
  unfold bStr at q
  split at q
  · split at q
    · rename_i h
      obtain ⟨x, rfl, r1⟩ := r.one
      cases r1
      exact .inl ⟨_, rfl, h, q.val (.str _)⟩
    · exact q.post.elim
  · obtain ⟨x, rfl, r1⟩ := r.one
    cases r1
    exact .inr ⟨_, rfl, q.val (.str _)⟩
  · exact q.post.elim
/-! ### methods -/
structure MthOk (X : Cx) (T : String) (name : Str) (id : String) (r : V → List V → Hp → VK → Prop) : Prop where
  pa : PlainAttrs T
  slot : Slot T name id
  ty : typeOf (.builtin id) = pure (.type "method_descriptor")
  run : MtR X id r
def tBMX (X : Cx) (name : Str) (to : TE) (t : TA) : TE := fun σ H Q => to σ H fun x H1 => ∃ T id r, MthOk X T name id r ∧ tyV X.K T x H1 ∧ t σ H1 fun xs H2 => r x xs H2 Q
theorem pe_bmX {o e : Expr} {es : List Expr} {to : TE} {t : TA} {name : Str} {apos cpos : Pos} (ho : PE X o to) (ha : PA X (e :: es) t) (hbase : attributeBase o name X.env (eval o X.env) = eval o X.env) (hl : (e :: es).length < 30)
    (hline : (apos.endLine == cpos.line) = true) (hs : (e :: es).any star' = false) : PE X (.Call (.Attribute o name apos) (e :: es) [] cpos) (tBMX X name to t) := by
  have hs2 := hs
  rw [List.any_cons, Bool.or_eq_false_iff] at hs2
  have ev := starEach_cons (es := es) (env := X.env) hs2.1
  have hplain := starEach_any (env := X.env) (pos := cpos) hs2.2
  have hall : ∀ (l : List (Bool × Sem Value)), l.any (·.1) = false → l.all (fun x => !x.1) = true := fun l h => by
    rw [List.all_eq_true]
    intro x hx
    rw [List.any_eq_false] at h
    simpa using h x hx
  refine ⟨fun pins s σ H Q I h => ?_⟩
  refine wpAny_Call_method_late hbase ?_ hline rfl (thn (ho.run pins s σ H _ I h) fun v s1 ⟨x, H1, I1, r1, T, id, r, M, ty, q1⟩ => ?_)
  · rw [hall _ (starEach_any hs)]
    simp only [Bool.true_and]
    rw [Bool.and_eq_true]
    refine ⟨rfl, decide_eq_true ?_⟩
    simpa using hl
  obtain ⟨h1, h2⟩ := tyV_is I1 r1 ty
  refine ⟨T, id, M.pa, M.slot, M.ty, h1, h2, ?_⟩
  have hA := ha.run cpos pins s1 σ H1 _ I1 q1
  rw [ev] at hA ⊢
  refine Calls.callWith_builtin (by show (false || (backTo cpos (starEach es X.env)).any (·.1)) = false; rw [hplain] <;> rfl) (Calls.evalArgs_plain ?_)
  exact thn hA fun us s2 ⟨vs, H2, I2, r2, q2⟩ => M.run pins s2 σ H2 x vs v us Q I2 r1 r2 q2
theorem strs_rep {μ : List Addr} {H : Hp} {ds : List D} {xs : List Str} {vs : List V} (e : strsOf ds = some xs) (r : RepL G μ H ds vs) : vs = xs.map V.str := by
  induction ds generalizing xs vs with
  | nil => cases r; cases e; rfl
  | cons d ds ih =>
    cases r with
    | cons h t =>
      cases d with
      | str x =>
        unfold strsOf at e
        cases e2 : strsOf ds with
        | none => rw [e2] at e; cases e
        | some ys =>
          rw [e2] at e
          cases e
          cases h
          rw [ih e2 t]
          rfl
      | _ => cases e
theorem seqOf_rep {μ : List Addr} {st : Store} {H : Hp} {d : D} {x : V} {ds : List D} (S : Sim G μ st H) (e : seqOf st d = some ds) (r : Rep G μ H d x) : ∃ p vs, x = .ref p ∧ (SqL G.K H p vs ∨ SqT G.K H p vs) ∧ RepL G μ H ds vs := by
  unfold seqOf at e
  split at e
  · rename_i ds' e1
    cases e
    obtain ⟨p, vs, rfl, h1, h2⟩ := asTup_rep e1 r
    exact ⟨p, vs, rfl, .inr h1, h2⟩
  · obtain ⟨p, vs, rfl, h1, h2⟩ := asL_rep S e r
    exact ⟨p, vs, rfl, .inl (SqL.of h1), h2⟩
theorem cb_join {K : PySem.W.Frag} (hK : G.K = K) {z : Str} : CbD G (mJoin z) (fun xs H Q => ∃ a p, ∃ ys : List Str, V.str z = .str a ∧ xs = [.ref p] ∧ (SqL K H p (ys.map V.str) ∨ SqT K H p (ys.map V.str)) ∧ (ys.map (·.length)).sum + ys.length * a.length ≤ 16777216 ∧ Q (.str (Txt.join a ys)) H) := by
  intro W μ ρ st σ H ds xs Q q r
  subst hK
  unfold mJoin at q
  split at q
  · obtain ⟨x, rfl, r1⟩ := r.one
    split at q
    · rename_i ys e
      split at q
      · rename_i hl
        obtain ⟨ds, e1, e2⟩ := Option.bind_eq_some_iff.mp e
        obtain ⟨p, vs, rfl, h1, h2⟩ := seqOf_rep q.sim e1 r1
        have h3 := strs_rep e2 h2
        subst h3
        exact ⟨z, p, ys, rfl, rfl, h1, hl, q.val (.str _)⟩
      · exact q.post.elim
    · exact q.post.elim
  · exact q.post.elim
theorem RepL.oneStr {μ : List Addr} {H : Hp} {z : Str} {xs : List V} (r : RepL G μ H [.str z] xs) : xs = [.str z] := by
  obtain ⟨x, rfl, r1⟩ := r.one
  cases r1
  rfl
theorem cb_find {z : Str} : CbD G (mFind z) (fun xs H Q => ∃ a b, V.str z = .str a ∧ xs = [.str b] ∧ Q (.int (Txt.find a b)) H) := by
  intro W μ ρ st σ H ds xs Q q r
  unfold mFind at q
  split at q
  · exact ⟨_, _, rfl, r.oneStr, q.val (.int _)⟩
  · exact q.post.elim
theorem cb_count {z : Str} : CbD G (mCount z) (fun xs H Q => ∃ a b, V.str z = .str a ∧ xs = [.str b] ∧ Q (.int (Txt.count a b)) H) := by
  intro W μ ρ st σ H ds xs Q q r
  unfold mCount at q
  split at q
  · exact ⟨_, _, rfl, r.oneStr, q.val (.int _)⟩
  · exact q.post.elim
theorem cb_index {z : Str} : CbD G (mIndex z) (fun xs H Q => ∃ a b i rest, V.str z = .str a ∧ xs = [.str b] ∧ Builtin.Str.occurrences a b 0 a.length 1 = i :: rest ∧ Q (.int (i : Nat)) H) := by
  intro W μ ρ st σ H ds xs Q q r
  unfold mIndex at q
  split at q
  · split at q
    · rename_i k rest e
      exact ⟨_, _, _, _, rfl, r.oneStr, e, q.val (.int _)⟩
    · exact q.post.elim
  · exact q.post.elim
theorem cb_append {l : Nat} {p : Addr} {μ0 : List Addr} (hl : μ0[l]? = some p) {W : WX} {μ : List Addr} {ρ : Lc} {st : Store} {σ : Sl} {H : Hp} {ds : List D} {xs : List V} {Q : VK} (hm : μ[l]? = some p)
    (q : Run G W (Rep G) μ ρ st σ H Q (mAppend l ds st)) (r : RepL G μ H ds xs) : rAppend (.ref p) xs H Q := by
  unfold mAppend at q
  split at q
  · obtain ⟨x, rfl, r1⟩ := r.one
    split at q
    · rename_i ds e
      split at q
      · rename_i hlt
        obtain ⟨vs, e1, e2⟩ := q.sim.obj _ _ _ e hm
        refine ⟨p, vs, x, rfl, rfl, e1, by rw [← e2.len, ← big_eq]; exact hlt, ?_⟩
        have hn : ∀ o u', H p ≠ some (.frz o u') := fun o u' z => by rw [e1] at z; cases z
        exact q.put hm hn ⟨_, upd_same, (e2.app (.cons r1 .nil)).step (step_put (List.mem_of_getElem? hm) hn) _ _⟩ .non
      · exact q.post.elim
    · exact q.post.elim
  · exact q.post.elim
theorem mt_rep {W : WX} {b : Fn} {name : Str} {μ : List Addr} {ρ : Lc} {st : Store} {σ : Sl} {H : Hp} {a : D} {x : V} {g : SA} {Q : VK} (hK : G.K = X.K) (e : mtOf name a st = some b) (ra : Rep G μ H a x)
    (q : Run G W (Rep G) μ ρ st σ H Q ((g ρ st).bind fun ds st2 => b ds st2)) : ∃ T id r, MthOk X T name id r ∧ tyV X.K T x H ∧ tA G W g σ H fun xs H2 => r x xs H2 Q := by
  have fin : ∀ {r : List V → Hp → VK → Prop}, CbD G b r → tA G W g σ H fun xs H2 => r xs H2 Q := fun hd =>
    ⟨μ, ρ, st, (Run.bind q).imp fun xs H1 ⟨μ1, ds, st1, s1, rd, q1⟩ => hd q1 rd⟩
  unfold mtOf at e
  split at e
  · cases ra
    unfold mtStr at e
    split at e
    · rename_i hn
      cases e; subst hn
      exact ⟨_, _, _, ⟨PySem.F.plainAttrs_str, PySem.F.slot_str_join, PySem.F.type_str_join, mt_join⟩, rfl, fin (cb_join hK)⟩
    · split at e
      · rename_i hn
        cases e; subst hn
        exact ⟨_, _, _, ⟨PySem.F.plainAttrs_str, PySem.F.slot_str_find, PySem.F.type_str_find, mt_find⟩, rfl, fin cb_find⟩
      · split at e
        · rename_i hn
          cases e; subst hn
          exact ⟨_, _, _, ⟨PySem.F.plainAttrs_str, PySem.F.slot_str_index, PySem.F.type_str_index, mt_sindex⟩, rfl, fin cb_index⟩
        · split at e
          · rename_i hn
            cases e; subst hn
            exact ⟨_, _, _, ⟨PySem.F.plainAttrs_str, PySem.F.slot_str_count, PySem.F.type_str_count, mt_count⟩, rfl, fin cb_count⟩
          · cases e
  · rename_i l
    split at e
    · rename_i ds e1
      unfold mtLst at e
      split at e
      · rename_i hn
        cases e; subst hn
        cases ra with
        | ref hl =>
          obtain ⟨vs, h1, h2⟩ := q.sim.obj _ _ _ e1 hl
          refine ⟨_, _, _, ⟨PySem.F.plainAttrs_list, PySem.F.slot_list_append, PySem.F.type_list_append, mt_append⟩, (show tyV X.K "list" (.ref _) H from .inl ⟨rfl, vs, SqL.of h1⟩), μ, ρ, st, (Run.bind q).imp fun xs H1 ⟨μ1, ds, st1, s1, rd, q1⟩ => cb_append hl (s1.at hl) q1 rd⟩
      · cases e
    · cases e
  · cases e
theorem t_meth {W : WX} {o e : Expr} {es : List Expr} {f : SE} {g : SA} {name : Str} {apos cpos : Pos} (hK : G.K = X.K) (ho : PE X o (tE G W f)) (ha : PA X (e :: es) (tA G W g)) (hbase : attributeBase o name X.env (eval o X.env) = eval o X.env) (hl : (e :: es).length < 30)
    (hline : (apos.endLine == cpos.line) = true) (hs : (e :: es).any star' = false) : PE X (.Call (.Attribute o name apos) (e :: es) [] cpos) (tE G W (sMeth name f g)) :=
  PEimp (pe_bmX ho ha hbase hl hline hs) fun σ H Q ⟨μ, ρ, st, q⟩ => ⟨μ, ρ, st, (Run.bind q).imp fun x H1 ⟨μ1, a, st1, s1, ra, q1⟩ => by
    split at q1
    · rename_i b e
      exact mt_rep hK e ra q1
    · exact q1.post.elim⟩
end
end Bk

namespace Bk
open L2 PyProof.Rows PySem.Spec PySem

/-! ## Walks -/
/-- an iterable value, walked -/
def IterR (X : Cx) (tg : Expr) (r : V → Hp → (It → Hp → Prop) → Prop) : Prop :=
  ∀ (pins : List (Addr × Obj)) (s : Shared) (σ : Sl) (H : Hp) (R : It → Hp → Prop) (x : V) (v : Value), Inv X pins σ H s → RelV x v → r x H R → wpAny (model X.prog X.w) X.A (pyIter v) (PIE X pins σ tg R) X.xe s
theorem pi_of {X : Cx} {tg e : Expr} {te : TE} {r : V → Hp → (It → Hp → Prop) → Prop} (hr : IterR X tg r) (he : PE X e te) : PI X tg e (fun σ H R => te σ H fun x H1 => r x H1 R) :=
  ⟨fun pins s σ H R I h => thn (he.run pins s σ H _ I h) fun v s1 ⟨x, H1, I1, r1, q1⟩ => hr pins s1 σ H1 R x v I1 r1 q1⟩
theorem it_list {X : Cx} {tg : Expr} : IterR X tg fun x H R => ∃ a, x = .ref a ∧ (∃ xs, SqL X.K H a xs) ∧ R (Itl X.K a) H := by
  intro pins s1 σ H1 R x v I1 r1 q1
  obtain ⟨a, e, ⟨xs, hq⟩, q⟩ := q1
  subst e
  cases r1
  obtain ⟨its, rv, p, hz⟩ := I1.list hq
  refine wpAny_pyIter_list p.isList ?_
  refine ⟨s1.heap.objs.size, [s1.heap.objs.size], _, _, H1, rfl, I1.kept (t' := s1.toks) fun b o e => Heap.get?_push_of_some _ e, turn_list a _, ⟨_, Heap.get?_push_size _ rfl, rfl, rfl⟩, fun b hb => ?_, q⟩
  have e : b = s1.heap.objs.size := by simpa using hb
  subst e
  exact I1.fpOk (Nat.le_refl _) (I1.hok.fresh (Nat.le_refl _))
theorem it_tup {X : Cx} {tg : Expr} : IterR X tg fun x H R => ∃ a, x = .ref a ∧ (∃ xs, SqT X.K H a xs) ∧ R (Itt X.K a) H := by
  intro pins s1 σ H1 R x v I1 r1 q1
  obtain ⟨a, e, ⟨xs, hq⟩, q⟩ := q1
  subst e
  cases r1
  obtain ⟨its, rv, p, hz⟩ := I1.tuple hq
  refine wpAny_pyIter_tuple (show s1.heap.IsTuple a its.toArray from p) ?_
  refine ⟨s1.heap.objs.size, [s1.heap.objs.size], _, _, H1, rfl, I1.kept (t' := s1.toks) fun b o e => Heap.get?_push_of_some _ e, turn_tuple a _, ⟨_, Heap.get?_push_size _ rfl, rfl, rfl⟩, fun b hb => ?_, q⟩
  have e : b = s1.heap.objs.size := by simpa using hb
  subst e
  exact I1.fpOk (Nat.le_refl _) (I1.hok.fresh (Nat.le_refl _))
theorem it_str {X : Cx} {tg : Expr} : IterR X tg fun v H R => ∃ x, v = .str x ∧ R (Its x) H := by
  intro pins s1 σ H1 R y v I1 r1 q1
  obtain ⟨x, ex, q⟩ := q1
  subst ex
  obtain ⟨t, rfl⟩ := r1
  cases ha : x.cps.all (· < 128)
  · exact wpAny_pyIter_wide ha (pi_one (tk := s1.toks) I1 _ (turn_str _ x t "str_iterator" (.inr rfl)) ⟨_, Heap.get?_push_size _ rfl, rfl, rfl⟩ q)
  · exact wpAny_pyIter_ascii ha (pi_one (tk := s1.toks) I1 _ (turn_str _ x t "str_ascii_iterator" (.inl rfl)) ⟨_, Heap.get?_push_size _ rfl, rfl, rfl⟩ q)
/-- a dict's keys: held from here on -/
theorem it_keys {X : Cx} {tg : Expr} : IterR X tg fun x H R => ∃ d, x = .ref d ∧ ((∃ o kvs, H d = some (.frz o (.dK kvs)) ∧ R (Itk d o kvs) H) ∨
    ∃ kvs, H d = some (.dK kvs) ∧ ∀ o, (∀ o' u', X.H_0 d ≠ some (.frz o' u')) → R (Itk d o kvs) (upd H d (.frz o (.dK kvs)))) := by
  have main : ∀ (pins : List (Addr × Obj)) (s : Shared) (σ : Sl) (H : Hp) (R : It → Hp → Prop) (d : Addr) (o : Obj) (kvs : List (Key × V)), Inv X pins σ H s → H d = some (.frz o (.dK kvs)) → R (Itk d o kvs) H →
      wpAny (model X.prog X.w) X.A (pyIter (.ref d)) (PIE X pins σ tg R) X.xe s := by
    intro pins s1 σ H1 R d o kvs I1 hd q
    obtain ⟨hs, hgd, hx, es, ep, vs, hdt, hsz, kv, hm⟩ := I1.frzK hd
    refine iter_keys hs hgd hx hdt (pi_one (tk := s1.toks) I1 _ (turn_keys _ hdt) ⟨_, Heap.get?_push_size _ rfl, rfl, ?_⟩ q)
    rw [hsz] <;> rfl
  intro pins s1 σ H1 R x v I1 r1 ⟨d, ex, q⟩
  subst ex
  obtain rfl : v = Value.ref d := r1
  rcases q with ⟨o, kvs, hd, q⟩ | ⟨kvs, hd, q⟩
  · exact main pins s1 σ H1 R d o kvs I1 hd q
  · obtain ⟨od, I2⟩ := I1.lock hd trivial
    exact main pins s1 σ _ R d od kvs I2 upd_same (q od (I1.nofrz hd trivial))
/-- any of them -/
def rIt (X : Cx) : V → Hp → (It → Hp → Prop) → Prop := fun x H R => (∃ a, x = .ref a ∧ (∃ xs, SqL X.K H a xs) ∧ R (Itl X.K a) H) ∨ (∃ a, x = .ref a ∧ (∃ xs, SqT X.K H a xs) ∧ R (Itt X.K a) H) ∨ (∃ y, x = .str y ∧ R (Its y) H) ∨
  ∃ d, x = .ref d ∧ ((∃ o kvs, H d = some (.frz o (.dK kvs)) ∧ R (Itk d o kvs) H) ∨ ∃ kvs, H d = some (.dK kvs) ∧ ∀ o, (∀ o' u', X.H_0 d ≠ some (.frz o' u')) → R (Itk d o kvs) (upd H d (.frz o (.dK kvs))))
theorem it_any {X : Cx} {tg : Expr} : IterR X tg (rIt X) := fun pins s σ H R x v I r h => by
  rcases h with h | h | h | h
  · exact it_list pins s σ H R x v I r h
  · exact it_tup pins s σ H R x v I r h
  · exact it_str pins s σ H R x v I r h
  · exact it_keys pins s σ H R x v I r h

/-! ### what a cursor promises -/
def Yld (G : Gl0) (μ : List Addr) (H : Hp) (i : Nat) (J : It) : Option (Option D) → Prop
  | none => True
  | some none => J.stop i H
  | some (some d) => J.go i H ∧ ∀ x H', J.yld i H x H' → (H' = H ∨ ∃ T u, H T = none ∧ H' = upd H T u) ∧ Rep G μ H' d x
/-- a step, but for what is hidden -/
def StepX (h : List Addr) (μ : List Addr) (H : Hp) (μ' : List Addr) (H' : Hp) : Prop := ∃ H2, Step μ H μ' H2 ∧ ∀ a, a ∉ h → H' a = H2 a
theorem Step.x {h μ μ' : List Addr} {H H' : Hp} (s : Step μ H μ' H') : StepX h μ H μ' H' := ⟨H', s, fun _ _ => rfl⟩
structure CurOk (G : Gl0) (μ : List Addr) (H : Hp) (c : Cur) (J : It) : Prop where
  run : ∀ (h μ' : List Addr) (st' : Store) (H' : Hp) (i : Nat), (∀ a ∈ h, a ∈ G.hid ∨ H a = none) → StepX G.hid μ H μ' H' → Sim (G.wh h) μ' st' H' → Yld (G.wh h) μ' H' i J (c i st')
section
variable {X : Cx} {G : Gl0} {W : WX} {μ μ' : List Addr} {H H' : Hp} {h : List Addr} {st' : Store}
theorem cary_up (hh : ∀ a ∈ h, a ∈ G.hid ∨ H a = none) (s : StepX G.hid μ H μ' H') : Cary G.hid μ H h μ' H' := by
  obtain ⟨H2, s, hx⟩ := s
  exact ⟨fun a o h1 h2 e n => ⟨⟨s.notin h1 e, fun hm => (hh a hm).elim h2 fun z => by rw [z] at e; cases e⟩, by rw [hx a h2]; exact s.keep a o h1 e n⟩,
    fun a o h1 h2 e n => ⟨⟨s.notin h1 e, fun hm => (hh a hm).elim h2 fun z => by rw [z] at e; cases e⟩, by
      have := s.keepD a o h1 e n
      unfold Rd at this ⊢
      rw [hx a h2]; exact this⟩, fun l a e => s.at e⟩
theorem RepL.get? {ds : List D} {vs : List V} (r : RepL G μ H ds vs) (i : Nat) : (ds[i]? = none ∧ vs.length ≤ i) ∨ ∃ d v, ds[i]? = some d ∧ vs[i]? = some v ∧ Rep G μ H d v := by
  induction i generalizing ds vs with
  | zero => cases r with
    | nil => exact .inl ⟨rfl, Nat.le_refl _⟩
    | cons h t => exact .inr ⟨_, _, rfl, rfl, h⟩
  | succ i ih => cases r with
    | nil => exact .inl ⟨rfl, Nat.zero_le _⟩
    | cons h t =>
      rcases ih t with ⟨a, b⟩ | ⟨d, v, a, b, c⟩
      · exact .inl ⟨by simpa using a, Nat.succ_le_succ b⟩
      · exact .inr ⟨d, v, by simpa using a, by simpa using b, c⟩
theorem yld_list {K : PySem.W.Frag} {a : Addr} {ds : List D} {vs : List V} {i : Nat} (hq : SqL K H a vs) (r : RepL G μ H ds vs) : Yld G μ H i (Itl K a) (some ds[i]?) := by
  rcases r.get? i with ⟨e, hl⟩ | ⟨d, v, e, e2, rd⟩
  · rw [e]; exact ⟨vs, hq, hl⟩
  · rw [e]; exact ⟨⟨vs, v, hq, e2⟩, fun x H' ⟨e3, h⟩ => ⟨.inl e3, by
      have := h vs hq
      rw [e2] at this
      cases this
      rw [e3]; exact rd⟩⟩
theorem yld_tup {K : PySem.W.Frag} {a : Addr} {ds : List D} {vs : List V} {i : Nat} (hq : SqT K H a vs) (r : RepL G μ H ds vs) : Yld G μ H i (Itt K a) (some ds[i]?) := by
  rcases r.get? i with ⟨e, hl⟩ | ⟨d, v, e, e2, rd⟩
  · rw [e]; exact ⟨vs, hq, hl⟩
  · rw [e]; exact ⟨⟨vs, v, hq, e2⟩, fun x H' ⟨e3, h⟩ => ⟨.inl e3, by
      have := h vs hq
      rw [e2] at this
      cases this
      rw [e3]; exact rd⟩⟩
theorem cur_list {K : PySem.W.Frag} {a : Addr} {ds : List D} {vs : List V} (hf : Fz G μ a) (hr : Rd H a (.lst vs)) (r : RepL G μ H ds vs) : CurOk G μ H (cList ds) (Itl K a) := ⟨fun h μ' st' H' i hh s S =>
  yld_list (.inl ((cary_up hh s).rd (G := G) (u := .lst vs) hf (fun ps z => by cases z) hr).2) (RepL.cary (G := G) (cary_up hh s) _ _ r)⟩
theorem cur_tup {K : PySem.W.Frag} {a : Addr} {ds : List D} {vs : List V} (hr : (Fz G μ a ∧ H a = some (.tup vs)) ∨ KTup K a vs) (r : RepL G μ H ds vs) : CurOk G μ H (cList ds) (Itt K a) := ⟨fun h μ' st' H' i hh s S =>
  yld_tup (hr.elim (fun ⟨hf, e⟩ => .inl (.inl ((cary_up hh s).fz _ _ hf.1 hf.2 e trivial).2)) (fun ⟨o, its, n, h⟩ => .inr ⟨o, its, n, h⟩)) (RepL.cary (G := G) (cary_up hh s) _ _ r)⟩
theorem cur_ref {K : PySem.W.Frag} {a : Addr} {l : Nat} (e : μ[l]? = some a) : CurOk G μ H (cRef l) (Itl K a) := ⟨fun h μ' st' H' i hh s S => by
  unfold cRef
  split
  · rename_i ds e1
    obtain ⟨vs, h1, h2⟩ := S.obj _ _ _ e1 ((cary_up hh s).at' _ _ e)
    exact yld_list (SqL.of h1) h2
  · trivial⟩
theorem chars_get (x : Str) (i : Nat) : (chars x)[i]? = (x.cps[i]?).map fun c => D.str ⟨#[c]⟩ := by
  unfold chars
  rw [List.getElem?_map, Array.getElem?_toList]
theorem cur_str {x : Str} : CurOk G μ H (cList (chars x)) (Its x) := ⟨fun h μ' st' H' i hh s S => by
  unfold cList
  rw [chars_get]
  cases e : x.cps[i]? with
  | none => exact Array.getElem?_eq_none_iff.mp e
  | some c =>
    refine ⟨(Array.getElem?_eq_some_iff.mp e).1, fun v H'' ⟨e1, c', e2, e3⟩ => ⟨.inl e1, ?_⟩⟩
    rw [e] at e2
    cases e2
    rw [e3]
    exact .str _⟩
theorem RepP.get? {ds : List (Key × D)} {vs : List (Key × V)} (r : RepP G μ H ds vs) (i : Nat) : (ds[i]? = none ∧ vs.length ≤ i) ∨ ∃ k d v, ds[i]? = some (k, d) ∧ vs[i]? = some (k, v) ∧ Rep G μ H d v := by
  induction i generalizing ds vs with
  | zero => cases r with
    | nil => exact .inl ⟨rfl, Nat.le_refl _⟩
    | cons h t => exact .inr ⟨_, _, _, rfl, rfl, h⟩
  | succ i ih => cases r with
    | nil => exact .inl ⟨rfl, Nat.zero_le _⟩
    | cons h t =>
      rcases ih t with ⟨a, b⟩ | ⟨k, d, v, a, b, c⟩
      · exact .inl ⟨by simpa using a, Nat.succ_le_succ b⟩
      · exact .inr ⟨k, d, v, by simpa using a, by simpa using b, c⟩
theorem rep_key (k : Key) : Rep G μ H (keyD k) (kV k) := by
  cases k with
  | inl i => exact .int i
  | inr x => exact .str x
theorem cur_keys {d : Addr} {o : Obj} {ks : List (Key × D)} {kvs : List (Key × V)} (hn : d ∉ G.hid) (hd : H d = some (.frz o (.dK kvs))) (r : RepP G μ H ks kvs) : CurOk G μ H (cList (ks.map fun p => keyD p.1)) (Itk d o kvs) := ⟨fun h μ' st' H' i hh s S => by
  have lk : H' d = some (.frz o (.dK kvs)) := by
    obtain ⟨H2, s, hx⟩ := s
    rw [hx d hn]; exact s.lock _ _ _ hd
  unfold cList
  rw [List.getElem?_map]
  rcases r.get? i with ⟨e, hl⟩ | ⟨k, dd, v, e, e2, rd⟩
  · rw [e]; exact ⟨lk, hl⟩
  · rw [e]
    refine ⟨⟨lk, (List.getElem?_eq_some_iff.mp e2).1⟩, fun x H'' ⟨e1, k', v', e3, e4⟩ => ⟨.inl e1, ?_⟩⟩
    rw [e2] at e3
    cases e3
    rw [e4]
    exact rep_key k⟩
theorem cur_rng {lo : Int} {n : Nat} : CurOk G μ H (cList (rngL lo 1 n)) (Itr lo n) := ⟨fun h μ' st' H' i hh s S => by
  unfold cList rngL
  rw [List.getElem?_map]
  by_cases hi : i < n
  · rw [List.getElem?_range hi]
    exact ⟨hi, fun x H'' ⟨e1, e2⟩ => ⟨.inl e1, by
      show Rep _ _ _ (D.int (lo + (i : Int) * 1)) _
      rw [e2, Int.mul_one]; exact .int _⟩⟩
  · rw [List.getElem?_eq_none (by simpa using hi)]
    exact Nat.le_of_not_lt hi⟩
theorem cur_rngC {lo c : Int} {n : Nat} : CurOk G μ H (cList (rngL lo c n)) (Itc lo c n) := ⟨fun h μ' st' H' i hh s S => by
  unfold cList rngL
  rw [List.getElem?_map]
  by_cases hi : i < n
  · rw [List.getElem?_range hi]
    exact ⟨hi, fun x H'' ⟨e1, e2⟩ => ⟨.inl e1, by rw [e2]; exact .int _⟩⟩
  · rw [List.getElem?_eq_none (by simpa using hi)]
    exact Nat.le_of_not_lt hi⟩
end
end Bk

namespace Bk
open L2 PyProof.Rows PySem.Spec PySem

/-! ## Targets -/
/-- the slots outside vs stand -/
def Keeps (vs : List Nat) (σ σ' : Sl) : Prop := σ'.length = σ.length ∧ ∀ i, i ∉ vs → σ'[i]? = σ[i]?
theorem Keeps.refl {vs : List Nat} {σ : Sl} : Keeps vs σ σ := ⟨rfl, fun _ _ => rfl⟩
theorem Keeps.trans {vs : List Nat} {σ σ1 σ2 : Sl} (h : Keeps vs σ σ1) (k : Keeps vs σ1 σ2) : Keeps vs σ σ2 := ⟨k.1.trans h.1, fun i hi => (k.2 i hi).trans (h.2 i hi)⟩
theorem Keeps.mono {vs us : List Nat} {σ σ' : Sl} (h : Keeps vs σ σ') (hs : ∀ i ∈ vs, i ∈ us) : Keeps us σ σ' := ⟨h.1, fun i hi => h.2 i fun z => hi (hs i z)⟩
theorem wipe_len (σ : Sl) (vs : List Nat) : (wipe σ vs).length = σ.length := by
  induction vs with
  | nil => rfl
  | cons v vs ih => show ((wipe σ vs).set v none).length = _; rw [List.length_set, ih]
theorem wipe_get (σ : Sl) (vs : List Nat) (i : Nat) : (wipe σ vs)[i]? = if i ∈ vs then (if i < σ.length then some none else none) else σ[i]? := by
  induction vs with
  | nil => rfl
  | cons v vs ih =>
    show ((wipe σ vs).set v none)[i]? = _
    rw [List.getElem?_set, wipe_len, ih]
    by_cases h : v = i
    · subst h
      simp
    · by_cases h2 : i ∈ vs
      · simp [h, h2]
      · have h3 : i ≠ v := fun z => h z.symm
        simp [h, h2, h3]
theorem Keeps.wipe {vs : List Nat} {σ σ' : Sl} (h : Keeps vs σ σ') : wipe σ' vs = wipe σ vs := by
  apply List.ext_getElem?
  intro i
  rw [wipe_get, wipe_get, h.1]
  by_cases hi : i ∈ vs
  · simp [hi]
  · simp [hi, h.2 i hi]
theorem wipeD_len (ρ : Lc) (vs : List Nat) : (wipeD ρ vs).length = ρ.length := by
  induction vs with
  | nil => rfl
  | cons v vs ih => show ((wipeD ρ vs).set v none).length = _; rw [List.length_set, ih]
theorem wipeD_get (ρ : Lc) (vs : List Nat) (i : Nat) : (wipeD ρ vs)[i]? = if i ∈ vs then (if i < ρ.length then some none else none) else ρ[i]? := by
  induction vs with
  | nil => rfl
  | cons v vs ih =>
    show ((wipeD ρ vs).set v none)[i]? = _
    rw [List.getElem?_set, wipeD_len, ih]
    by_cases h : v = i
    · subst h
      simp
    · by_cases h2 : i ∈ vs
      · simp [h, h2]
      · have h3 : i ≠ v := fun z => h z.symm
        simp [h, h2, h3]
section
variable {X : Cx} {G : Gl0} {W : WX} {μ : List Addr} {st : Store} {ρ : Lc} {σ : Sl} {H : Hp}
theorem Lo.wipe (l : Lo G μ ρ σ H) (vs : List Nat) : Lo G μ (wipeD ρ vs) (wipe σ vs) H := ⟨by rw [wipeD_len, wipe_len]; exact l.len, fun i d e => by
  rw [wipeD_get] at e
  by_cases h : i ∈ vs
  · simp only [h, if_true] at e
    split at e <;> cases e
  · simp only [h, if_false] at e
    rw [wipe_get]
    simp only [h, if_false]
    exact l.at' i d e⟩
theorem Lo.set {i : Nat} {d : D} {v : V} (l : Lo G μ ρ σ H) (r : Rep G μ H d v) : Lo G μ (ρ.set i (some d)) (σ.set i (some v)) H := ⟨by simp [l.len], fun j e h => by
  rw [List.getElem?_set] at h
  by_cases hj : i = j
  · subst hj
    simp only [if_true] at h
    split at h
    · rename_i hl
      cases h
      exact ⟨v, by rw [List.getElem?_set_self (by rw [← l.len]; exact hl)], r⟩
    · cases h
  · simp only [hj, if_false] at h
    rw [List.getElem?_set_ne hj]
    exact l.at' j e h⟩
/-- a target's reading -/
def tGt (G : Gl0) (vs : List Nat) (g : SG) : TG := fun v σ H Q => ∃ μ ρ d ρ', Lo G μ ρ σ H ∧ Rep G μ H d v ∧ g d ρ = some ρ' ∧ ∀ σ', Lo G μ ρ' σ' H → Keeps vs σ σ' → Q σ' H
def tGts (G : Gl0) (vs : List Nat) (gs : List SG) : TGs := fun xs σ H Q => ∃ μ ρ ds ρ', Lo G μ ρ σ H ∧ RepL G μ H ds xs ∧ gAll gs ds ρ = some ρ' ∧ ∀ σ', Lo G μ ρ' σ' H → Keeps vs σ σ' → Q σ' H
theorem PGimp {e : Expr} {t t' : TG} (h : PG X e t) (i : ∀ v σ H Q, t' v σ H Q → t v σ H Q) : PG X e t' := ⟨fun pins s σ H v u Q I r q => h.run pins s σ H v u Q I r (i _ _ _ _ q)⟩
theorem PGsimp {e : List Expr} {t t' : TGs} (h : PGs X e t) (i : ∀ v σ H Q, t' v σ H Q → t v σ H Q) : PGs X e t' := ⟨fun pins s σ H v u Q I r q => h.run pins s σ H v u Q I r (i _ _ _ _ q)⟩
theorem t_gname {i : Nat} {x : Str} {pos : Pos} {vs : List Nat} (hv : i ∈ vs) (h : PG X (.Name x pos) (gName i)) : PG X (.Name x pos) (tGt G vs (gName' i)) :=
  PGimp h fun v σ H Q ⟨μ, ρ, d, ρ', l, r, e, q⟩ => by
    unfold gName' at e
    split at e
    · cases e
      exact q _ (l.set r) ⟨by simp, fun j hj => List.getElem?_set_ne (fun (z : i = j) => hj (by rw [← z]; exact hv))⟩
    · cases e
theorem t_gnil {vs : List Nat} : PGs X [] (tGts G vs []) := PGsimp pgs_nil fun xs σ H Q ⟨μ, ρ, ds, ρ', l, r, e, q⟩ => by
  cases ds with
  | nil =>
    cases r
    cases e
    exact ⟨rfl, q _ l Keeps.refl⟩
  | cons d ds => cases e
theorem assignEach_cons {e : Expr} {es : List Expr} {env : Env} (h : star' e = false) : assignEach (e :: es) env = (false, assign e env) :: assignEach es env := by
  cases e <;> first | rfl | cases h
theorem assignEach_len (es : List Expr) (env : Env) : (assignEach es env).length = es.length := by
  induction es with
  | nil => rfl
  | cons e es ih => cases e <;> simp [assignEach, ih]
theorem assignEach_star {es : List Expr} {env : Env} (h : es.any star' = false) : (assignEach es env).findIdx? (·.1) = none := by
  rw [List.findIdx?_eq_none_iff]
  induction es with
  | nil => intro x hx; cases hx
  | cons e es ih =>
    rw [List.any_cons, Bool.or_eq_false_iff] at h
    rw [assignEach_cons h.1]
    intro x hx
    rcases List.mem_cons.mp hx with z | z
    · subst z; rfl
    · exact ih h.2 x z
theorem t_gcons {e : Expr} {es : List Expr} {vs : List Nat} {g : SG} {gs : List SG} (hs : star' e = false) (h1 : PG X e (tGt G vs g)) (h2 : PGs X es (tGts G vs gs)) : PGs X (e :: es) (tGts G vs (g :: gs)) :=
  PGsimp (pgs_cons h1 h2 (by rw [assignEach_cons hs]; rfl)) fun xs σ H Q ⟨μ, ρ, ds, ρ', l, r, e, q⟩ => by
    cases ds with
    | nil => cases e
    | cons d ds =>
      cases r with
      | cons ra rr =>
        obtain ⟨ρ1, e1, e2⟩ := Option.bind_eq_some_iff.mp e
        exact ⟨_, _, rfl, μ, ρ, d, ρ1, l, ra, e1, fun σ1 l1 k1 => ⟨μ, ρ1, ds, ρ', l1, rr, e2, fun σ2 l2 k2 => q σ2 l2 (k1.trans k2)⟩⟩
theorem gAll_len {gs : List SG} {ds : List D} {ρ ρ' : Lc} (e : gAll gs ds ρ = some ρ') : ds.length = gs.length := by
  induction gs generalizing ds ρ with
  | nil => cases ds with
    | nil => rfl
    | cons d ds => cases e
  | cons g gs ih => cases ds with
    | nil => cases e
    | cons d ds =>
      obtain ⟨ρ1, e1, e2⟩ := Option.bind_eq_some_iff.mp e
      simp [ih e2]
theorem t_gtup {es : List Expr} {k : Nat} {pos : Pos} {vs : List Nat} {gs : List SG} (hK : G.K = X.K) (hc : X.calm = true) (hs : es.any star' = false) (hl : gs.length = es.length) (h : PGs X es (tGts G vs gs)) : PG X (.Tuple es k pos) (tGt G vs (gTup' gs)) :=
  PGimp (pg_tup hc h (assignEach_len es X.env) (assignEach_star hs)) fun v σ H Q ⟨μ, ρ, d, ρ', l, r, e, q⟩ => by
    obtain ⟨ds, e1, e2⟩ := Option.bind_eq_some_iff.mp e
    obtain ⟨p, xs, rfl, h1, h2⟩ := asTup_rep e1 r
    exact ⟨p, xs, rfl, hK ▸ h1, by rw [← h2.len, gAll_len e2, hl], μ, ρ, ds, ρ', l, h2, e2, q⟩
end
end Bk

namespace Bk
open L2 PyProof.Rows PySem.Spec PySem

/-! ## Iterables -/
/-- what is held can be let go: it was not held at H, nor at the start -/
def LkOk (X : Cx) (μ : List Addr) (H : Hp) (lk : Option Nat) : Prop := ∀ l, lk = some l → ∃ d, μ[l]? = some d ∧ (∀ o u, H d ≠ some (.frz o u)) ∧ ∀ o u, X.H_0 d ≠ some (.frz o u)
def PostI (X : Cx) (G : Gl0) (W : WX) (μ : List Addr) (H : Hp) (σ : Sl) (R : It → Hp → Prop) : Bk.R Wk → Prop
  | .ok w st => ∀ μ' H' J, Step μ H μ' H' → Sim G μ' st H' → CurOk G μ' H' w.cur J → LkOk X μ' H w.lk → R J H'
  | .exn c st => ∀ μ' H', Step μ H μ' H' → Sim G μ' st H' → W (.ref (G.exc c)) none σ H'
  | .stuck => False
structure RunI (X : Cx) (G : Gl0) (W : WX) (μ : List Addr) (ρ : Lc) (st : Store) (σ : Sl) (H : Hp) (R : It → Hp → Prop) (r : Bk.R Wk) : Prop where
  sim : Sim G μ st H
  lo : Lo G μ ρ σ H
  post : PostI X G W μ H σ R r
def tI (X : Cx) (G : Gl0) (W : WX) (f : SI) : TI := fun σ H R => ∃ μ ρ st, RunI X G W μ ρ st σ H R (f ρ st)
theorem PIimp {X : Cx} {tg e : Expr} {t t' : TI} (h : PI X tg e t) (i : ∀ σ H R, t' σ H R → t σ H R) : PI X tg e t' := ⟨fun pins s σ H R I q => h.run pins s σ H R I (i _ _ _ q)⟩
section
variable {X : Cx} {G : Gl0} {W : WX} {μ μ' : List Addr} {st : Store} {ρ : Lc} {σ : Sl} {H H' : Hp} {R : It → Hp → Prop}
theorem LkOk.none : LkOk X μ H none := fun l e => by cases e
theorem LkOk.back {ν : List Addr} {lk : Option Nat} (s : Step μ H μ' H') (h : LkOk X ν H' lk) : LkOk X ν H lk := fun l e => by
  obtain ⟨d, h1, h2, h3⟩ := h l e
  exact ⟨d, h1, fun o u z => h2 o u (s.lock _ _ _ z), h3⟩
theorem PostI.shift {r : Bk.R Wk} (s : Step μ H μ' H') (h : PostI X G W μ H σ R r) : PostI X G W μ' H' σ R r := by
  cases r with
  | ok a st => exact fun μ2 H2 J s2 S c l => h μ2 H2 J (s.trans s2) S c (l.back s)
  | exn c st => exact fun μ2 H2 s2 S => h μ2 H2 (s.trans s2) S
  | stuck => exact h
/-- a value first, then the walk over it -/
theorem RunI.bind {α β : Type} {rp : List Addr → Hp → α → β → Prop} {r : Bk.R α} {g : α → Store → Bk.R Wk} (h : RunI X G W μ ρ st σ H R (r.bind g)) :
    Run G W rp μ ρ st σ H (fun x H1 => ∃ μ1 a st1, Step μ H μ1 H1 ∧ rp μ1 H1 a x ∧ RunI X G W μ1 ρ st1 σ H1 R (g a st1)) r := by
  refine ⟨h.sim, h.lo, ?_⟩
  have p := h.post
  cases r with
  | ok a st1 => exact fun μ1 H1 v s S r => ⟨μ1, a, st1, s, r, S, h.lo.step s, p.shift s⟩
  | exn c st1 => exact p
  | stuck => exact p
theorem RunI.fin {w : Wk} {J : It} (h : RunI X G W μ ρ st σ H R (.ok w st)) (c : CurOk G μ H w.cur J) (hl : w.lk = none) : R J H := h.post μ H J (Step.refl _ _) h.sim c (by rw [hl]; exact LkOk.none)
/-- a dict comes to be held -/
theorem step_hold {d : Addr} {o : Obj} {u : HO} (e : H d = some u) (hu : Dic u) : Step μ H μ (upd H d (.frz o u)) where
  pre := ⟨[], by simp, by simp⟩
  keep := fun a o' _ e' hf => by rw [upd_ne (fun z => by subst z; rw [e] at e'; cases e'; cases u <;> first | exact hu | exact hf)]; exact e'
  keepD := fun a o' _ e' _ => by
    by_cases z : a = d
    · subst z; rw [e] at e'; cases e'; exact .inr ⟨o, upd_same⟩
    · exact .inl (by rw [upd_ne z]; exact e')
  there := fun a o' e' => by
    by_cases z : a = d
    · exact ⟨_, by rw [z, upd_same]⟩
    · exact ⟨o', by rw [upd_ne z]; exact e'⟩
  lock := fun a o' u' e' => by rw [upd_ne (fun z => by subst z; rw [e] at e'; cases e'; exact hu)]; exact e'
theorem Dic.nofrz {d : Addr} {u : HO} (e : H d = some u) (hu : Dic u) : ∀ o u', H d ≠ some (.frz o u') := fun o u' z => by rw [e] at z; cases z; exact hu
theorem d_iter {d : D} {x : V} (q : RunI X G W μ ρ st σ H R (dIter d st)) (hK : G.K = X.K) (r : Rep G μ H d x) : rIt X x H R := by
  unfold dIter at q
  split at q
  · cases r; exact .inr (.inr (.inl ⟨_, rfl, q.fin cur_str rfl⟩))
  · cases r with
    | tup h0 h1 h2 => exact .inr (.inl ⟨_, rfl, ⟨_, .inl (.inl h1)⟩, q.fin (cur_tup (.inl ⟨h0, h1⟩) h2) rfl⟩)
  · cases r with
    | ktup h1 h2 =>
      rw [hK] at h1
      exact .inr (.inl ⟨_, rfl, ⟨_, .inr h1⟩, q.fin (cur_tup (.inr h1) h2) rfl⟩)
  · cases r with
    | lst h0 h1 h2 => exact .inl ⟨_, rfl, ⟨_, SqL.of h1⟩, q.fin (cur_list h0 (.inl h1) h2) rfl⟩
  · cases r with
    | dK h0 h1 h2 =>
      refine .inr (.inr (.inr ⟨_, rfl, ?_⟩))
      rcases h1 with h1 | ⟨o, h1⟩
      · refine .inr ⟨_, h1, fun o _ => ?_⟩
        have s : Step μ H μ (upd H _ (.frz o _)) := step_hold (o := o) h1 trivial
        refine q.post μ _ _ s (q.sim.same s (fun a ha => upd_ne (fun z => h0.1 (z ▸ ha))) fun t ht => upd_ne (fun z => ?_)) (cur_keys h0.2 upd_same (h2.step s _ _)) LkOk.none
        obtain ⟨ps, e, _⟩ := q.sim.tab t ht
        rw [z, h1] at e; cases e
      · exact .inl ⟨o, _, h1, q.fin (cur_keys h0.2 h1 h2) rfl⟩
  · rename_i l
    cases r with
    | ref hl =>
      split at q
      · rename_i ds e
        obtain ⟨vs, h1, h2⟩ := q.sim.obj _ _ _ e hl
        exact .inl ⟨_, rfl, ⟨_, SqL.of h1⟩, q.fin (cur_ref hl) rfl⟩
      · rename_i lk kvs e
        obtain ⟨vs, h1, h2, h3⟩ := q.sim.obj _ _ _ e hl
        have nh : ∀ a, a ∈ μ → a ∉ G.hid := fun a ha hm => (q.sim.hid a hm).1 ha
        replace nh := nh _ (List.mem_of_getElem? hl)
        refine .inr (.inr (.inr ⟨_, rfl, ?_⟩))
        cases lk with
        | true =>
          obtain ⟨o, h2⟩ := h2 rfl
          exact .inl ⟨o, _, h2, q.fin (cur_keys nh h2 h3) rfl⟩
        | false =>
          have h1 := h1 rfl
          refine .inr ⟨_, h1, fun o hx => ?_⟩
          have s : Step μ H μ (upd H _ (.frz o _)) := step_hold (o := o) h1 trivial
          exact q.post μ _ _ s (q.sim.put hl (Dic.nofrz h1 trivial) ⟨_, fun z => (by cases z), fun _ => ⟨o, upd_same⟩, h3.step s _ _⟩) (cur_keys nh upd_same (h3.step s _ _)) fun k ek => by
            cases ek
            exact ⟨_, hl, Dic.nofrz h1 trivial, hx⟩
      · exact q.post.elim
  · exact q.post.elim
theorem t_ival {tg e : Expr} {f : SE} (hK : G.K = X.K) (he : PE X e (tE G W f)) : PI X tg e (tI X G W (iVal f)) :=
  PIimp (pi_of it_any he) fun σ H R ⟨μ, ρ, st, q⟩ => ⟨μ, ρ, st, (RunI.bind q).imp fun x H1 ⟨μ1, d, st1, s1, r, q1⟩ => d_iter q1 hK r⟩
theorem b62_ok {i : Int} (h : b62 i = true) : -(2 ^ 62) ≤ i ∧ i < 2 ^ 62 := by
  unfold b62 at h
  rw [Bool.and_eq_true, decide_eq_true_eq, decide_eq_true_eq] at h
  exact h
theorem t_rng1 {tg a : Expr} {p pos : Pos} {f : SE} (hg : Gl X "range") (hm : X.mg "range" = none) (hs : star' a = false) (ha : PE X a (tE G W f)) : PI X tg (.Call (.Name "range" p) [a] [] pos) (tI X G W (iRng1' f)) :=
  PIimp (pi_range1 hg hm (pa_cons ha pa_nil (starEach_cons hs)) (starEach_cons hs)) fun σ H R ⟨μ, ρ, st, q⟩ => ⟨μ, ρ, st, (RunI.bind q).imp fun x H1 ⟨μ1, d, st1, s1, r, q1⟩ => by
    show iRng1 (fun _ _ _ => _) σ H1 R
    split at q1
    · split at q1
      · rename_i h
        cases r
        exact ⟨_, rfl, (b62_ok h).1, (b62_ok h).2, q1.fin cur_rng rfl⟩
      · exact q1.post.elim
    · exact q1.post.elim⟩
theorem t_rng2 {tg a b : Expr} {p pos : Pos} {f g : SE} (hg : Gl X "range") (hm : X.mg "range" = none) (hs : star' a = false) (hs2 : star' b = false) (ha : PE X a (tE G W f)) (hb : PE X b (tE G W g)) : PI X tg (.Call (.Name "range" p) [a, b] [] pos) (tI X G W (iRng2' f g)) :=
  PIimp (pi_range2 hg hm (pa_cons ha (pa_cons hb pa_nil (starEach_cons hs2)) (starEach_cons hs)) (by rw [starEach_cons hs, starEach_cons hs2]; rfl) (starEach_cons hs2)) fun σ H R ⟨μ, ρ, st, q⟩ => ⟨μ, ρ, st, (RunI.bind q).imp fun x H1 ⟨μ1, d, st1, s1, r, q1⟩ => ⟨μ1, ρ, st1, (RunI.bind q1).imp fun y H2 ⟨μ2, e, st2, s2, r2, q2⟩ => by
    split at q2
    · split at q2
      · split at q2
        · rename_i h
          rw [Bool.and_eq_true] at h
          cases r
          cases r2
          exact ⟨_, _, rfl, ⟨(b62_ok h.1).1, (b62_ok h.1).2, (b62_ok h.2).1, (b62_ok h.2).2⟩, q2.fin cur_rng rfl⟩
        · exact q2.post.elim
      · exact q2.post.elim
    · exact q2.post.elim⟩⟩
theorem t_rng3 {tg a b c : Expr} {p pos : Pos} {f g h : SE} (hg : Gl X "range") (hm : X.mg "range" = none) (hs : star' a = false) (hs2 : star' b = false) (hs3 : star' c = false) (ha : PE X a (tE G W f)) (hb : PE X b (tE G W g)) (hc : PE X c (tE G W h)) :
    PI X tg (.Call (.Name "range" p) [a, b, c] [] pos) (tI X G W (iRng3' f g h)) :=
  PIimp (pi_range3 hg hm (pa_cons ha (pa_cons hb (pa_cons hc pa_nil (starEach_cons hs3)) (starEach_cons hs2)) (starEach_cons hs)) (starEach_cons hs) (starEach_any (by simp [hs2, hs3]))) fun σ H R ⟨μ, ρ, st, q⟩ => ⟨μ, ρ, st, (RunI.bind q).imp fun x H1 ⟨μ1, d, st1, s1, r, q1⟩ => ⟨μ1, ρ, st1, (RunI.bind q1).imp fun y H2 ⟨μ2, e, st2, s2, r2, q2⟩ => ⟨μ2, ρ, st2, (RunI.bind q2).imp fun z H3 ⟨μ3, k, st3, s3, r3, q3⟩ => by
    split at q3
    · split at q3
      · split at q3
        · split at q3
          · rename_i hh
            cases r
            cases r2
            cases r3
            exact ⟨_, _, _, _, rfl, ⟨hh.1, hh.2.1, hh.2.2.1, (Int.toNat_of_nonneg hh.2.2.2).symm⟩, q3.fin cur_rngC rfl⟩
          · exact q3.post.elim
        · exact q3.post.elim
      · exact q3.post.elim
    · exact q3.post.elim⟩⟩⟩
end
end Bk

namespace Bk
open L2 PyProof.Rows PySem.Spec PySem

/-! ## enumerate, zip -/
def ItEs (x : Str) : It := ⟨fun i _ => i < x.cps.size, fun i H v H' => ∃ T c, x.cps[i]? = some c ∧ v = .ref T ∧ H T = none ∧ H' = upd H T (.tup [.int (i : Nat), .str ⟨#[c]⟩]), fun i _ => x.cps.size ≤ i⟩
theorem turn_enumS {P : Program} {w : World} {K : PySem.W.Frag} {elts : List Expr} {kk : Nat} {tpos : Pos} (x : Str) (t : Tok) (ty : String) (hty : ty = "str_ascii_iterator" ∨ ty = "str_iterator") (e it : Addr) :
    Turn P w K (.Tuple elts kk tpos) (ItEs x) [e, it] e (fun i h => (∃ old, IsEnum h e it ((i : Nat) : Int) old) ∧ h.IsStrIter it ty x t i ∧ e ≠ it) where
  mem := by simp
  obj := fun i h st b hb => by
    obtain ⟨⟨old, he⟩, ⟨o, ho, hc, hd⟩, _⟩ := st
    have e' : b = e ∨ b = it := by simpa using hb
    rcases e' with z | z
    · rw [z]; exact ⟨_, he, fun v q => nomatch q⟩
    · rw [z]; exact ⟨o, ho, fun v q => by rw [hd] at q; cases q⟩
  keep := fun i h h' st k => let ⟨⟨old, he⟩, ⟨o, ho, r⟩, hne⟩ := st; ⟨⟨old, k e (by simp) _ he⟩, ⟨o, k it (by simp) o ho, r⟩, hne⟩
  item := by
    intro X hP hw hK hc i pins s σ H E I hf st hg
    subst hP hw hK
    obtain ⟨⟨old, he⟩, hit, hne⟩ := st
    have hel : e < s.heap.objs.size := Heap.lt_size he
    have hil : it < s.heap.objs.size := by obtain ⟨_, q, _⟩ := hit; exact Heap.lt_size q
    have D : Draws X.prog X.w X.A.in1 it [it] x.cps.size (SignAt x) (fun i h => h.IsStrIter it ty x t i) := by
      rcases hty with z | z
      · rw [z]; exact Draws.strAscii (A := X.A.in1) (show X.A.in1.handled = none from I.ok.hd hc) it x t
      · rw [z]; exact Draws.strWide (A := X.A.in1) (show X.A.in1.handled = none from I.ok.hd hc) it x t
    refine wpAny_pyNext_enum_itemD D he hit hg hne (by simpa using hne) fun u h' tk hu ho hit' hT hsz hk => ?_
    obtain ⟨c, t2, hcx, rfl⟩ := hu
    refine ⟨_, rfl, wpAny_letOwnedTupleGo_enum (s := { s with heap := h', toks := tk + 1 }) ho fun h'' he' sb => ?_⟩
    have hT2 : h''.get? s.heap.objs.size = some { cls := .type "tuple", data := .seq #[.int i tk, .str ⟨#[c]⟩ t2] } := (sb.2 _ (Nat.ne_of_gt hel)).trans hT
    have new : ObjOk X.prog X.w (upd H s.heap.objs.size (.tup [.int (i : Nat), .str ⟨#[c]⟩])) h'' s.heap.objs.size (.tup [.int (i : Nat), .str ⟨#[c]⟩]) :=
      ⟨by show 2 ≤ sizeLine; decide, [.int i tk, .str ⟨#[c]⟩ t2], .cons ⟨_, rfl⟩ (.cons ⟨_, rfl⟩ .nil), ⟨_, hT2, rfl, _, rfl⟩⟩
    have I1 : Inv X pins σ (upd H s.heap.objs.size (.tup [.int (i : Nat), .str ⟨#[c]⟩])) { s with heap := h'', toks := tk + 1 } :=
      I.turnedNew (t' := tk + 1) (ch := [e, it]) (fun b ob hb q => (sb.2 b (fun z => hb (by simp [z]))).trans (hk b ob (fun z => hb (by simp [z])) (fun z => hb (by simp [z])) q)) hf (Nat.le_refl _) new
    refine ⟨.ref s.heap.objs.size, _, I1, rfl, ⟨_, c, hcx, rfl, I.hok.fresh (Nat.le_refl _), rfl⟩, ⟨⟨.str ⟨#[c]⟩ t2, ?_⟩, ?_, hne⟩, fun b hb => ?_⟩
    · have e1 : ((i + 1 : Nat) : Int) = (i : Int) + 1 := by omega
      rw [e1]; exact he'
    · obtain ⟨o, q1, q2⟩ := hit'
      exact ⟨o, (sb.2 it (Ne.symm hne)).trans q1, q2⟩
    · have hb' : b < s.heap.objs.size := by
        have e' : b = e ∨ b = it := by simpa using hb
        rcases e' with z | z
        · rw [z]; exact hel
        · rw [z]; exact hil
      rw [upd_ne (Nat.ne_of_lt hb')]
      exact (hf b hb).1
  done := by
    intro X hP hw hK hc i pins s σ H E I hf st hg
    subst hP hw hK
    obtain ⟨⟨old, he⟩, hit, hne⟩ := st
    obtain ⟨f0, f1, f2, f3, f4, f5⟩ := hf it (by simp)
    have hx : x.cps[i]? = none := Array.getElem?_eq_none hg
    have D : Draws X.prog X.w X.A.in1 it [it] i (fun _ _ => False) (fun j h => h.IsStrIter it ty x t j ∧ j = i) := by
      refine ⟨fun j h st => let ⟨⟨o, ho, _⟩, _⟩ := st; ⟨o, ho⟩, fun j h h' st hk => let ⟨⟨o, ho, r⟩, z⟩ := st; ⟨⟨o, hk it (by simp) o ho, r⟩, z⟩, fun j s Q E hj st hQ => by omega, fun s Q E st hE => ?_⟩
      rcases hty with z | z
      · rw [z] at st; exact wpAny_nextOf_ascii_end (A := X.A.in1) (show X.A.in1.handled = none from I.ok.hd hc) st.1 hx hE
      · rw [z] at st; exact wpAny_nextOf_wide_end (A := X.A.in1) (show X.A.in1.handled = none from I.ok.hd hc) st.1 hx hE
    exact wpAny_pyNext_enum_endD D he ⟨hit, rfl⟩ fun h' eb => ⟨rfl, I.turned (t' := s.toks) (fun b o hb q => eb b o hb q) f0 f1 f3 f4 f5⟩
  self := fun A i s Q E st h => let ⟨⟨_, he⟩, _⟩ := st; wpAny_pyIter_enum he h
def rEn (K : PySem.W.Frag) : V → Hp → (It → Hp → Prop) → Prop := fun x H R => (∃ a xs, x = .ref a ∧ SqL K H a xs ∧ R (Ite K a) H) ∨ ∃ y, x = .str y ∧ R (ItEs y) H
theorem pi_enumX {X : Cx} {e : Expr} {ta : TA} {p pos tpos : Pos} {elts : List Expr} {kk : Nat} (hg : Gl X "enumerate") (hm : X.mg "enumerate" = none) (ha : PA X [e] ta) (hs : starEach [e] X.env = [(false, eval e X.env)]) :
    PI X (.Tuple elts kk tpos) (.Call (.Name "enumerate" p) [e] [] pos) (fun σ H R => ta σ H fun vs H1 => ∃ x, vs = [x] ∧ rEn X.K x H1 R) := by
  refine ⟨fun pins s σ H R I h => ?_⟩
  refine Call_ (ld_blt I hg hm boot_enumerate (PyProof.Rows.callWith_type1 (thn (ha.run pos pins s σ H _ I h) fun us s1 ⟨vs, H1, I1, r1, x, e1, q1⟩ => ?_) hs rfl))
  subst e1
  cases r1 with
  | cons r rr =>
    cases rr
    rcases q1 with ⟨a, xs, ex, hq, q⟩ | ⟨y, ex, q⟩
    · subst ex
      cases r
      obtain ⟨its, rv, p', hz⟩ := I1.list hq
      refine call_enumerate_list p'.isList fun h' he hit hsz hk => wpAny_pyIter_enum he ?_
      have I2 : Inv X pins σ H1 { s1 with heap := h' } := I1.kept (t' := s1.toks) hk
      refine ⟨s1.heap.objs.size + 1, [s1.heap.objs.size + 1, s1.heap.objs.size], _, _, H1, rfl, I2, turn_enum a (s1.heap.objs.size + 1) s1.heap.objs.size, ⟨⟨.none, he⟩, hit, Nat.succ_ne_self _⟩, fun b hb => ?_, q⟩
      have e' : b = s1.heap.objs.size + 1 ∨ b = s1.heap.objs.size := by simpa using hb
      have hle : s1.heap.objs.size ≤ b := by
        rcases e' with z | z
        · rw [z]; exact Nat.le_add_right _ _
        · rw [z]; exact Nat.le_refl _
      exact I1.fpOk hle (I1.hok.fresh hle)
    · subst ex
      obtain ⟨t, rfl⟩ := r
      refine call_enumerate_str fun h' he hit hsz hk => wpAny_pyIter_enum he ?_
      have I2 : Inv X pins σ H1 { s1 with heap := h' } := I1.kept (t' := s1.toks) hk
      have hty : strIterType y = "str_ascii_iterator" ∨ strIterType y = "str_iterator" := by
        unfold strIterType
        split
        · exact .inl rfl
        · exact .inr rfl
      refine ⟨s1.heap.objs.size + 1, [s1.heap.objs.size + 1, s1.heap.objs.size], _, _, H1, rfl, I2, turn_enumS y t _ hty (s1.heap.objs.size + 1) s1.heap.objs.size, ⟨⟨.none, he⟩, hit, Nat.succ_ne_self _⟩, fun b hb => ?_, q⟩
      have e' : b = s1.heap.objs.size + 1 ∨ b = s1.heap.objs.size := by simpa using hb
      have hle : s1.heap.objs.size ≤ b := by
        rcases e' with z | z
        · rw [z]; exact Nat.le_add_right _ _
        · rw [z]; exact Nat.le_refl _
      exact I1.fpOk hle (I1.hok.fresh hle)
section
variable {X : Cx} {G : Gl0} {W : WX} {μ μ' : List Addr} {st : Store} {ρ : Lc} {σ : Sl} {H H' : Hp} {R : It → Hp → Prop}
theorem rep_pair {T : Addr} {d e : D} {x y : V} (S : Sim G μ st H) (n : H T = none) (r : Rep G μ H d x) (k : Rep G μ H e y) : Rep G μ (upd H T (.tup [x, y])) (.tup [d, e]) (.ref T) :=
  .tup (S.fz n) upd_same (.cons (r.step (step_new n) _ _) (.cons (k.step (step_new n) _ _) .nil))
/-- the list at a, live or not -/
structure LiveL (G : Gl0) (μ : List Addr) (H : Hp) (K : PySem.W.Frag) (a : Addr) (c : Cur) : Prop where
  run : ∀ (h μ' : List Addr) (st' : Store) (H' : Hp), (∀ a ∈ h, a ∈ G.hid ∨ H a = none) → StepX G.hid μ H μ' H' → Sim (G.wh h) μ' st' H' →
    (∀ i, c i st' = none) ∨ ∃ ds vs, SqL K H' a vs ∧ RepL (G.wh h) μ' H' ds vs ∧ ∀ i, c i st' = some ds[i]?
theorem live_lst {K : PySem.W.Frag} {a : Addr} {ds : List D} {vs : List V} (hf : Fz G μ a) (hr : Rd H a (.lst vs)) (r : RepL G μ H ds vs) : LiveL G μ H K a (cList ds) := ⟨fun h μ' st' H' hh s S =>
  .inr ⟨ds, vs, .inl ((cary_up hh s).rd (G := G) (u := .lst vs) hf (fun ps z => by cases z) hr).2, RepL.cary (G := G) (cary_up hh s) _ _ r, fun i => rfl⟩⟩
theorem live_ref {K : PySem.W.Frag} {a : Addr} {l : Nat} (e : μ[l]? = some a) : LiveL G μ H K a (cRef l) := ⟨fun h μ' st' H' hh s S => by
  cases e1 : st'[l]? with
  | none => exact .inl fun i => by unfold cRef; rw [e1]
  | some o => cases o with
    | lst ds =>
      obtain ⟨vs, h1, h2⟩ := S.obj _ _ _ e1 ((cary_up hh s).at' _ _ e)
      exact .inr ⟨ds, vs, SqL.of h1, h2, fun i => by unfold cRef; rw [e1]⟩
    | _ => exact .inl fun i => by unfold cRef; rw [e1]⟩
theorem sq_one {K : PySem.W.Frag} {a : Addr} {xs : List V} {i : Nat} {x v : V} (h : SqL K H a xs) (k : ∀ xs, SqL K H a xs → xs[i]? = some x) (e : xs[i]? = some v) : x = v := by
  have := k xs h
  rw [e] at this
  cases this
  rfl
theorem cur_enL {K : PySem.W.Frag} {a : Addr} {c : Cur} (L : LiveL G μ H K a c) : CurOk G μ H (cEnum c) (Ite K a) := ⟨fun h μ' st' H' i hh s S => by
  unfold cEnum
  rcases L.run h μ' st' H' hh s S with z | ⟨ds, vs, h1, h2, h3⟩
  · rw [z]; trivial
  · rw [h3]
    rcases h2.get? i with ⟨e, hl⟩ | ⟨d, v, e, e2, rd⟩
    · rw [e]; exact ⟨vs, h1, hl⟩
    · rw [e]
      refine ⟨⟨vs, v, h1, e2⟩, fun x H'' ⟨T, y, e3, n, e4, k⟩ => ?_⟩
      rw [sq_one h1 k e2] at e4
      subst e3 e4
      exact ⟨.inr ⟨T, _, n, rfl⟩, rep_pair S n (.int _) rd⟩⟩
theorem cur_enS {x : Str} : CurOk G μ H (cEnum (cList (chars x))) (ItEs x) := ⟨fun h μ' st' H' i hh s S => by
  unfold cEnum cList
  rw [chars_get]
  cases e : x.cps[i]? with
  | none => exact Array.getElem?_eq_none_iff.mp e
  | some c =>
    refine ⟨(Array.getElem?_eq_some_iff.mp e).1, fun v H'' ⟨T, c', e2, e3, n, e4⟩ => ?_⟩
    rw [e] at e2
    cases e2
    subst e3 e4
    exact ⟨.inr ⟨T, _, n, rfl⟩, rep_pair S n (.int _) (.str _)⟩⟩
theorem t_enum {elts : List Expr} {kk : Nat} {e : Expr} {p pos tpos : Pos} {f : SE} (hK : G.K = X.K) (hg : Gl X "enumerate") (hm : X.mg "enumerate" = none) (hs : star' e = false) (he : PE X e (tE G W f)) : PI X (.Tuple elts kk tpos) (.Call (.Name "enumerate" p) [e] [] pos) (tI X G W (iEnum f)) :=
  PIimp (pi_enumX hg hm (pa_cons he pa_nil (starEach_cons hs)) (starEach_cons hs)) fun σ H R ⟨μ, ρ, st, q⟩ => ⟨μ, ρ, st, (RunI.bind q).imp fun x H1 ⟨μ1, d, st1, s1, r, q1⟩ => by
    refine ⟨x, rfl, ?_⟩
    cases d with
    | str y => cases r; exact .inr ⟨_, rfl, q1.fin cur_enS rfl⟩
    | lst ds => cases r with
      | lst h0 h1 h2 => exact .inl ⟨_, _, rfl, SqL.of h1, q1.fin (cur_enL (live_lst h0 (.inl h1) h2)) rfl⟩
    | ref l => cases r with
      | ref hl =>
        cases e1 : st1[l]? with
        | none => simp only [e1] at q1; exact q1.post.elim
        | some o => cases o with
          | lst ds =>
            simp only [e1] at q1
            obtain ⟨vs, h1, h2⟩ := q1.sim.obj _ _ _ e1 hl
            exact .inl ⟨_, _, rfl, SqL.of h1, q1.fin (cur_enL (live_ref hl)) rfl⟩
          | _ => simp only [e1] at q1; exact q1.post.elim
    | _ => exact q1.post.elim⟩
theorem cur_zip {K : PySem.W.Frag} {a b : Addr} {c k : Cur} (L : LiveL G μ H K a c) (M : LiveL G μ H K b k) : CurOk G μ H (cZip c k) (Itz K a b) := ⟨fun h μ' st' H' i hh s S => by
  unfold cZip
  rcases L.run h μ' st' H' hh s S with z | ⟨ds, vs, h1, h2, h3⟩
  · rw [z]; trivial
  · rw [h3]
    rcases M.run h μ' st' H' hh s S with z | ⟨es, us, k1, k2, k3⟩
    · rw [z]; trivial
    · rw [k3]
      rcases h2.get? i with ⟨e, hl⟩ | ⟨d, v, e, e2, rd⟩
      · rw [e]; exact ⟨vs, us, h1, k1, .inl hl⟩
      · rw [e]
        rcases k2.get? i with ⟨f, hl⟩ | ⟨d', v', f, f2, rd'⟩
        · rw [f]; exact ⟨vs, us, h1, k1, .inr hl⟩
        · rw [f]
          refine ⟨⟨vs, us, v, v', h1, k1, e2, f2⟩, fun x H'' ⟨T, y, z, e3, n, e4, g1, g2⟩ => ?_⟩
          rw [sq_one h1 g1 e2, sq_one k1 g2 f2] at e4
          subst e3 e4
          exact ⟨.inr ⟨T, _, n, rfl⟩, rep_pair S n rd rd'⟩⟩
theorem dZip_ok {K : PySem.W.Frag} {d : D} {x : V} {w : Wk} (S : Sim G μ st H) (e : dZip d st = some w) (r : Rep G μ H d x) : ∃ a xs, x = .ref a ∧ SqL K H a xs ∧ LiveL G μ H K a w.cur := by
  cases d with
  | lst ds => cases e; cases r with
    | lst h0 h1 h2 => exact ⟨_, _, rfl, SqL.of h1, live_lst h0 (.inl h1) h2⟩
  | ref l => cases r with
    | ref hl =>
      unfold dZip at e
      cases e1 : st[l]? with
      | none => simp only [e1] at e; cases e
      | some o => cases o with
        | lst ds =>
          simp only [e1] at e
          cases e
          obtain ⟨vs, h1, h2⟩ := S.obj _ _ _ e1 hl
          exact ⟨_, _, rfl, SqL.of h1, live_ref hl⟩
        | _ => simp only [e1] at e; cases e
  | _ => cases e
theorem t_zip {elts : List Expr} {kk : Nat} {e e2 : Expr} {p pos tpos : Pos} {f g : SE} (hg : Gl X "zip") (hm : X.mg "zip" = none) (hs : star' e = false) (hs2 : star' e2 = false) (he : PE X e (tE G W f)) (he2 : PE X e2 (tE G W g)) : PI X (.Tuple elts kk tpos) (.Call (.Name "zip" p) [e, e2] [] pos) (tI X G W (iZip f g)) :=
  PIimp (pi_zip hg hm (pa_cons he (pa_cons he2 pa_nil (starEach_cons hs2)) (starEach_cons hs)) (starEach_cons hs) (starEach_any (by simp [hs2]))) fun σ H R ⟨μ, ρ, st, q⟩ => ⟨μ, ρ, st, (RunI.bind q).imp fun x H1 ⟨μ1, d, st1, s1, r, q1⟩ => ⟨μ1, ρ, st1, (RunI.bind q1).imp fun y H2 ⟨μ2, e, st2, s2, r2, q2⟩ => by
    cases e1 : dZip d st2 with
    | none => simp only [e1] at q2; exact q2.post.elim
    | some w => cases e2 : dZip e st2 with
      | none => simp only [e1, e2] at q2; exact q2.post.elim
      | some v =>
        simp only [e1, e2] at q2
        obtain ⟨a, xs, z1, h1, h2⟩ := dZip_ok (K := X.K) q2.sim e1 (r.step s2 _ _)
        obtain ⟨b, ys, z2, h3, h4⟩ := dZip_ok (K := X.K) q2.sim e2 r2
        subst z1 z2
        exact ⟨a, b, xs, ys, rfl, h1, h3, q2.fin (cur_zip h2 h4) rfl⟩⟩⟩
end
end Bk

namespace Bk
open L2 PyProof.Rows PySem.Spec PySem

/-! ## Statements -/
def PostS (G : Gl0) (W : WX) (D : Ends) (μ : List Addr) (H : Hp) : RS → Prop
  | .nx ρ st => ∀ μ' σ' H', Step μ H μ' H' → Sim G μ' st H' → Lo G μ' ρ σ' H' → D.nx σ' H'
  | .rt d st => ∀ μ' H' v, Step μ H μ' H' → Sim G μ' st H' → Rep G μ' H' d v → D.rt v H'
  | .bk ρ st => ∀ μ' σ' H', Step μ H μ' H' → Sim G μ' st H' → Lo G μ' ρ σ' H' → D.bk σ' H'
  | .ct ρ st => ∀ μ' σ' H', Step μ H μ' H' → Sim G μ' st H' → Lo G μ' ρ σ' H' → D.ct σ' H'
  | .exn c st => ∀ μ' σ' H', Step μ H μ' H' → Sim G μ' st H' → W (.ref (G.exc c)) none σ' H'
  | .stuck => False
structure RunS (G : Gl0) (W : WX) (D : Ends) (μ : List Addr) (ρ : Lc) (st : Store) (σ : Sl) (H : Hp) (r : RS) : Prop where
  sim : Sim G μ st H
  lo : Lo G μ ρ σ H
  post : PostS G W D μ H r
def tS (G : Gl0) (W : WX) (f : SS) : TS := fun D σ H => ∃ μ ρ st, RunS G W D μ ρ st σ H (f ρ st)
theorem PSimp' {X : Cx} {s : Stmt} {t t' : TS} (h : PS X s t) (i : ∀ D σ H, t' D σ H → t D σ H) : PS X s t' := ⟨fun pins s σ H D I q => h.run pins s σ H D I (i _ _ _ q)⟩
theorem PSsimp' {X : Cx} {s : List Stmt} {t t' : TS} (h : PSs X s t) (i : ∀ D σ H, t' D σ H → t D σ H) : PSs X s t' := ⟨fun pins s σ H D I q => h.run pins s σ H D I (i _ _ _ q)⟩
section
variable {X : Cx} {G : Gl0} {W : WX} {D : Ends} {μ μ' : List Addr} {st : Store} {ρ : Lc} {σ : Sl} {H H' : Hp}
theorem PostS.shift {r : RS} (s : Step μ H μ' H') (h : PostS G W D μ H r) : PostS G W D μ' H' r := by
  cases r with
  | nx ρ st => exact fun μ2 σ2 H2 s2 => h μ2 σ2 H2 (s.trans s2)
  | rt d st => exact fun μ2 H2 v s2 => h μ2 H2 v (s.trans s2)
  | bk ρ st => exact fun μ2 σ2 H2 s2 => h μ2 σ2 H2 (s.trans s2)
  | ct ρ st => exact fun μ2 σ2 H2 s2 => h μ2 σ2 H2 (s.trans s2)
  | exn c st => exact fun μ2 σ2 H2 s2 => h μ2 σ2 H2 (s.trans s2)
  | stuck => exact h
/-- an expression, then what is done with its value -/
theorem RunS.bindE {k : Bk.D → Store → RS} {r : R Bk.D} (h : RunS G W D μ ρ st σ H (sE2 r k)) :
    Run G W (Rep G) μ ρ st σ H (fun x H1 => ∃ μ1 d st1, Step μ H μ1 H1 ∧ Rep G μ1 H1 d x ∧ RunS G W D μ1 ρ st1 σ H1 (k d st1)) r := by
  refine ⟨h.sim, h.lo, ?_⟩
  have p := h.post
  cases r with
  | ok a st1 => exact fun μ1 H1 v s S r => ⟨μ1, a, st1, s, r, S, h.lo.step s, p.shift s⟩
  | exn c st1 => exact fun μ1 H1 s S => p μ1 σ H1 s S
  | stuck => exact p
end
def sAsg (f : SE) (g : SG) : SS := fun ρ st => sE2 (f ρ st) fun d st1 => match g d ρ with
  | some ρ1 => .nx ρ1 st1
  | none => .stuck
def sIfS (c : ST) (a b : SS) : SS := fun ρ st => match c ρ st with
  | .ok true st1 => a ρ st1
  | .ok false st1 => b ρ st1
  | .exn c st1 => .exn c st1
  | .stuck => .stuck
def sForS (it : SI) (g : SG) (body : SS) : SS := fun ρ st => match it ρ st with
  | .ok w st1 => unlkS w.lk (forC g body w.cur w.n 0 ρ st1)
  | .exn c st1 => .exn c st1
  | .stuck => .stuck
section
variable {X : Cx} {G : Gl0} {W : WX} {μ μ' : List Addr} {st : Store} {ρ : Lc} {σ : Sl} {H H' : Hp}
theorem ts_nil : PSs X [] (tS G W fun ρ st => .nx ρ st) := PSsimp' pss_nil fun D σ H ⟨μ, ρ, st, q⟩ => q.post μ σ H (Step.refl _ _) q.sim q.lo
theorem ts_cons {s : Stmt} {ss : List Stmt} {f g : SS} (h1 : PS X s (tS G W f)) (h2 : PSs X ss (tS G W g)) : PSs X (s :: ss) (tS G W fun ρ st => (f ρ st).then g) :=
  PSsimp' (pss_cons h1 h2) fun D σ H ⟨μ, ρ, st, q⟩ => ⟨μ, ρ, st, q.sim, q.lo, by
    have p : PostS G W D μ H ((f ρ st).then g) := q.post
    show PostS G W { D with nx := tS G W g D } μ H (f ρ st)
    cases e : f ρ st with
    | nx ρ1 st1 =>
      rw [e] at p
      exact fun μ1 σ1 H1 s S l => ⟨μ1, ρ1, st1, S, l, PostS.shift (r := g ρ1 st1) s p⟩
    | rt d st1 => rw [e] at p; exact p
    | bk ρ1 st1 => rw [e] at p; exact p
    | ct ρ1 st1 => rw [e] at p; exact p
    | exn c st1 => rw [e] at p; exact p
    | stuck => rw [e] at p; exact p⟩
theorem ts_pass {pos : Pos} : PS X (.Pass pos) (tS G W fun ρ st => .nx ρ st) := PSimp' ps_pass fun D σ H ⟨μ, ρ, st, q⟩ => q.post μ σ H (Step.refl _ _) q.sim q.lo
theorem ts_brk {pos : Pos} : PS X (.Break pos) (tS G W fun ρ st => .bk ρ st) := PSimp' ps_break fun D σ H ⟨μ, ρ, st, q⟩ => q.post μ σ H (Step.refl _ _) q.sim q.lo
theorem ts_cont {pos : Pos} : PS X (.Continue pos) (tS G W fun ρ st => .ct ρ st) := PSimp' ps_continue fun D σ H ⟨μ, ρ, st, q⟩ => q.post μ σ H (Step.refl _ _) q.sim q.lo
theorem ts_ret {e : Expr} {pos : Pos} {f : SE} (he : PE X e (tE G W f)) : PS X (.Return (some e) pos) (tS G W fun ρ st => sE2 (f ρ st) fun d st1 => .rt d st1) :=
  PSimp' (ps_ret he) fun D σ H ⟨μ, ρ, st, q⟩ => ⟨μ, ρ, st, (RunS.bindE (r := f ρ st) q).imp fun x H1 ⟨μ1, d, st1, s1, r, q1⟩ => q1.post μ1 H1 x (Step.refl _ _) q1.sim r⟩
theorem ts_expr {e : Expr} {pos : Pos} {f : SE} (he : PE X e (tE G W f)) (hs : swapsWith e none pos.line X.env = pure false) : PS X (.Expr e pos) (tS G W fun ρ st => sE2 (f ρ st) fun d st1 => .nx ρ st1) :=
  PSimp' (ps_expr he hs) fun D σ H ⟨μ, ρ, st, q⟩ => ⟨μ, ρ, st, (RunS.bindE (r := f ρ st) q).imp fun x H1 ⟨μ1, d, st1, s1, r, q1⟩ => q1.post μ1 σ H1 (Step.refl _ _) q1.sim q1.lo⟩
theorem ts_asg {s : Stmt} {vs : List Nat} {f : SE} {g : SG} (h : PS X s (tAsg (tE G W f) (tGt G vs g))) : PS X s (tS G W (sAsg f g)) :=
  PSimp' h fun D σ H ⟨μ, ρ, st, q⟩ => ⟨μ, ρ, st, (RunS.bindE (r := f ρ st) q).imp fun x H1 ⟨μ1, d, st1, s1, r, q1⟩ => by
    cases e : g d ρ with
    | none => rw [e] at q1; exact q1.post.elim
    | some ρ1 =>
      rw [e] at q1
      exact ⟨μ1, ρ, d, ρ1, q1.lo, r, e, fun σ' l k => q1.post μ1 σ' H1 (Step.refl _ _) q1.sim l⟩⟩
theorem ts_asgN {s : Stmt} {i : Nat} {f : SE} (h : PS X s (tAsg (tE G W f) (gName i))) : PS X s (tS G W (sAsg f (gName' i))) :=
  PSimp' h fun D σ H ⟨μ, ρ, st, q⟩ => ⟨μ, ρ, st, (RunS.bindE (r := f ρ st) q).imp fun x H1 ⟨μ1, d, st1, s1, r, q1⟩ => by
    unfold gName' at q1
    split at q1
    · rename_i ρ1 e
      split at e
      · cases e
        exact q1.post μ1 _ H1 (Step.refl _ _) q1.sim (q1.lo.set r)
      · cases e
    · exact q1.post.elim⟩
theorem ts_if {c : Expr} {a b : List Stmt} {pos : Pos} {t : ST} {f g : SS} (hc : PT X c (tT G W t)) (ha : PSs X a (tS G W f)) (hb : PSs X b (tS G W g)) : PS X (.If c a b pos) (tS G W (sIfS t f g)) :=
  PSimp' (ps_if hc ha hb) fun D σ H ⟨μ, ρ, st, q⟩ => ⟨μ, ρ, st, q.sim, q.lo, by
    have p : PostS G W D μ H (sIfS t f g ρ st) := q.post
    unfold sIfS at p
    cases e : t ρ st with
    | ok b st1 =>
      rw [e] at p
      intro μ1 H1 v s S r
      subst r
      cases b with
      | true => exact ⟨μ1, ρ, st1, S, q.lo.step s, PostS.shift (r := f ρ st1) s p⟩
      | false => exact ⟨μ1, ρ, st1, S, q.lo.step s, PostS.shift (r := g ρ st1) s p⟩
    | exn c st1 => rw [e] at p; exact fun μ1 H1 s S => p μ1 σ H1 s S
    | stuck => rw [e] at p; exact p⟩
/-! ### what is held is let go -/
def UH (X : Cx) (H H' : Hp) : Prop := H' = H ∨ ∃ d od u, H d = some (.frz od u) ∧ (∀ o' u', X.H_0 d ≠ some (.frz o' u')) ∧ H' = upd H d u
def unlD (X : Cx) (D : Ends) : Ends := ⟨fun σ H => ∃ H', UH X H H' ∧ D.nx σ H', fun v H => ∃ H', UH X H H' ∧ D.rt v H', fun σ H => ∃ H', UH X H H' ∧ D.bk σ H', fun σ H => ∃ H', UH X H H' ∧ D.ct σ H'⟩
theorem Inv.uh {pins : List (Addr × Obj)} {s : Shared} (I : L2.Inv X pins σ H s) (u : UH X H H') : L2.Inv X pins σ H' s := by
  rcases u with rfl | ⟨d, od, u, e, hn, rfl⟩
  · exact I
  · exact I.unlock e hn
theorem ps_unl {s : Stmt} {t : TS} (h : PS X s t) : PS X s fun D σ H => t (unlD X D) σ H := ⟨fun pins s σ H D I hw => thn (h.run pins s σ H _ I hw) fun f s1 q => by
  cases f with
  | next => obtain ⟨σ', H', I2, H2, u, q⟩ := q; exact ⟨σ', H2, Inv.uh I2 u, q⟩
  | brk => obtain ⟨σ', H', I2, H2, u, q⟩ := q; exact ⟨σ', H2, Inv.uh I2 u, q⟩
  | cont => obtain ⟨σ', H', I2, H2, u, q⟩ := q; exact ⟨σ', H2, Inv.uh I2 u, q⟩
  | ret v => obtain ⟨x, σ', H', I2, r, H2, u, q⟩ := q; exact ⟨x, σ', H2, Inv.uh I2 u, r, q⟩⟩
theorem pe_unl {e : Expr} {t : TE} (h : PE X e t) : PE X e fun σ H Q => t σ H fun v H1 => ∃ H', UH X H1 H' ∧ Q v H' := ⟨fun pins s σ H Q I hw => thn (h.run pins s σ H _ I hw) fun v s1 ⟨x, H1, I1, r, H2, u, q⟩ => ⟨x, H2, Inv.uh I1 u, r, q⟩⟩
/-- exceptions: letting go matters not -/
def WCl (X : Cx) (W : WX) : Prop := ∀ c d σ H H', UH X H H' → W c d σ H' → W c d σ H
theorem step_unl {d : Addr} {o : Obj} {u : HO} (s : Step μ H μ' H') (hd : d ∈ μ') (hn : ∀ o u, H d ≠ some (.frz o u)) (e : H' d = some (.frz o u)) : Step μ H μ' (upd H' d u) := by
  obtain ⟨ν, hν, hf⟩ := s.pre
  have nd : ∀ a o', a ∉ μ → H a = some o' → a ≠ d := fun a o' ha e' z => by
    subst z
    rw [hν] at hd
    rcases List.mem_append.mp hd with h | h
    · exact ha h
    · rw [hf a h] at e'; cases e'
  refine ⟨s.pre, fun a o' ha e' hx => ?_, fun a o' ha e' hx => ?_, fun a o' e' => ?_, fun a o' u' e' => ?_⟩
  · rw [upd_ne (nd a o' ha e')]; exact s.keep a o' ha e' hx
  · have := s.keepD a o' ha e' hx
    unfold Rd at this ⊢
    rw [upd_ne (nd a o' ha e')]
    exact this
  · by_cases z : a = d
    · exact ⟨u, by rw [z, upd_same]⟩
    · obtain ⟨o2, e2⟩ := s.there a o' e'
      exact ⟨o2, by rw [upd_ne z]; exact e2⟩
  · have z : a ≠ d := fun z => by subst z; exact hn o' u' e'
    rw [upd_ne z]; exact s.lock a o' u' e'
end
end Bk

namespace Bk
open L2 PyProof.Rows PySem.Spec PySem

/-! ## Loops -/
section
variable {X : Cx} {G : Gl0} {W : WX} {D : Ends} {μ μ' : List Addr} {st : Store} {ρ : Lc} {σ : Sl} {H H' : Hp}
theorem cary_let {l : Nat} {d : Addr} {u : HO} (hl : μ[l]? = some d) : Cary G.hid μ H G.hid μ (upd H d u) := Cary.mk' (fun a o h1 h2 e => ⟨⟨h1, h2⟩, by
    have z : a ≠ d := fun z => by subst z; exact h1 (List.mem_of_getElem? hl)
    rw [upd_ne z]; exact e⟩) fun _ _ e => e
/-- a held dict of the store is let go -/
theorem Sim.let {l : Nat} {d : Addr} {o : Obj} {u : HO} {ob' : SObj} (S : Sim G μ st H) (hl : μ[l]? = some d) (e : H d = some (.frz o u)) (hu : Dic u) (h : ObjR G μ (upd H d u) d ob') : Sim G μ (List.set st l ob') (upd H d u) where
  len := by simp [S.len]
  nd := S.nd
  obj := fun k o' b h1 h2 => by
    have h1 : (List.set st l ob')[k]? = some o' := h1
    by_cases hk : l = k
    · subst hk
      rw [hl] at h2
      cases h2
      have hlt : l < st.length := by rw [← S.len]; exact (List.getElem?_eq_some_iff.mp hl).1
      rw [List.getElem?_set_self hlt] at h1
      cases h1
      exact h
    · rw [List.getElem?_set_ne hk] at h1
      have hba : b ≠ d := fun z => by
        subst z
        exact hk ((List.getElem?_inj (List.getElem?_eq_some_iff.mp hl).1 S.nd).mp (hl.trans h2.symm))
      exact ObjR.cary (G := G) (cary_let hl) (upd_ne hba) (S.obj k o' b h1 h2)
  tab := fun q hq => by
    obtain ⟨ps, h1, h2, h3⟩ := S.tab q hq
    refine ⟨ps, by rw [upd_ne (fun z => by rw [z, e] at h1; cases h1)]; exact h1, h2, fun pos cv hc hi => ?_⟩
    obtain ⟨c, e1, e2⟩ := h3 pos cv hc hi
    exact ⟨c, e1, by rw [upd_ne (fun z => by rw [z, e] at e2; cases e2)]; exact e2⟩
  hid := fun b hb => by
    obtain ⟨h1, w, h2, h3⟩ := S.hid b hb
    have hba : b ≠ d := fun z => by subst z; exact h1 (List.mem_of_getElem? hl)
    exact ⟨h1, w, by rw [upd_ne hba]; exact h2, h3⟩
/-- letting go of what a walk held -/
theorem unlk_ok {lk : Option Nat} {μ0 : List Addr} {H0 : Hp} {st' : Store} (s0 : Step μ0 H0 μ H) (hlk : LkOk X μ H0 lk) (s : Step μ H μ' H') (S : Sim G μ' st H') (e : unlk lk st = some st') :
    ∃ H2, UH X H' H2 ∧ Step μ0 H0 μ' H2 ∧ Sim G μ' st' H2 ∧ (∀ d v, Rep G μ' H' d v → Rep G μ' H2 d v) := by
  cases lk with
  | none => cases e; exact ⟨H', .inl rfl, s0.trans s, S, fun _ _ r => r⟩
  | some l =>
    obtain ⟨d, h1, h2, h3⟩ := hlk l rfl
    have hl := s.at h1
    unfold unlk at e
    simp only at e
    split at e
    · rename_i kvs e1
      cases e
      obtain ⟨vs, _, q1, q2⟩ := S.obj _ _ _ e1 hl
      obtain ⟨o, q1⟩ := q1 rfl
      refine ⟨upd H' d (.dK vs), .inr ⟨d, o, _, q1, h3, rfl⟩, step_unl (s0.trans s) (List.mem_of_getElem? hl) h2 q1, Sim.let S hl q1 trivial ⟨vs, fun _ => upd_same, fun z => (by cases z), RepP.cary (G := G) (cary_let hl) _ _ q2⟩, fun d v r => Rep.cary (G := G) (cary_let hl) d v r⟩
    · rename_i kvs e1
      cases e
      obtain ⟨vs, _, q1, q2⟩ := S.obj _ _ _ e1 hl
      obtain ⟨o, q1⟩ := q1 rfl
      refine ⟨upd H' d (.dT vs), .inr ⟨d, o, _, q1, h3, rfl⟩, step_unl (s0.trans s) (List.mem_of_getElem? hl) h2 q1, Sim.let S hl q1 trivial ⟨vs, fun _ => upd_same, fun z => (by cases z), RepQ.cary (G := G) (cary_let hl) _ _ q2⟩, fun d v r => Rep.cary (G := G) (cary_let hl) d v r⟩
    · cases e
theorem PostS.unl {lk : Option Nat} {μ0 : List Addr} {H0 : Hp} {r : RS} (s0 : Step μ0 H0 μ H) (hlk : LkOk X μ H0 lk) (wc : WCl X W) (p : PostS G W D μ0 H0 (unlkS lk r)) : PostS G W (unlD X D) μ H r := by
  cases r with
  | nx ρ st =>
    intro μ' σ' H' s S l
    cases e : unlk lk st with
    | none => unfold unlkS at p; simp only [e] at p; exact p.elim
    | some st' =>
      unfold unlkS at p; simp only [e] at p
      obtain ⟨H2, u, s2, S2, rr⟩ := unlk_ok s0 hlk s S e
      exact ⟨H2, u, p μ' σ' H2 s2 S2 ⟨l.len, fun i d e => let ⟨v, h1, h2⟩ := l.at' i d e; ⟨v, h1, rr _ _ h2⟩⟩⟩
  | rt d st =>
    intro μ' H' v s S r
    cases e : unlk lk st with
    | none => unfold unlkS at p; simp only [e] at p; exact p.elim
    | some st' =>
      unfold unlkS at p; simp only [e] at p
      obtain ⟨H2, u, s2, S2, rr⟩ := unlk_ok s0 hlk s S e
      exact ⟨H2, u, p μ' H2 v s2 S2 (rr _ _ r)⟩
  | bk ρ st =>
    intro μ' σ' H' s S l
    cases e : unlk lk st with
    | none => unfold unlkS at p; simp only [e] at p; exact p.elim
    | some st' =>
      unfold unlkS at p; simp only [e] at p
      obtain ⟨H2, u, s2, S2, rr⟩ := unlk_ok s0 hlk s S e
      exact ⟨H2, u, p μ' σ' H2 s2 S2 ⟨l.len, fun i d e => let ⟨v, h1, h2⟩ := l.at' i d e; ⟨v, h1, rr _ _ h2⟩⟩⟩
  | ct ρ st =>
    intro μ' σ' H' s S l
    cases e : unlk lk st with
    | none => unfold unlkS at p; simp only [e] at p; exact p.elim
    | some st' =>
      unfold unlkS at p; simp only [e] at p
      obtain ⟨H2, u, s2, S2, rr⟩ := unlk_ok s0 hlk s S e
      exact ⟨H2, u, p μ' σ' H2 s2 S2 ⟨l.len, fun i d e => let ⟨v, h1, h2⟩ := l.at' i d e; ⟨v, h1, rr _ _ h2⟩⟩⟩
  | exn c st =>
    intro μ' σ' H' s S
    cases e : unlk lk st with
    | none => unfold unlkS at p; simp only [e] at p; exact p.elim
    | some st' =>
      unfold unlkS at p; simp only [e] at p
      obtain ⟨H2, u, s2, S2, rr⟩ := unlk_ok s0 hlk s S e
      exact wc _ _ _ _ _ u (p μ' σ' H2 s2 S2)
  | stuck => exact p
/-- a walk in a for -/
theorem for_core {J : It} {vs : List Nat} {cur : Cur} {n : Nat} {g : SG} {body : SS} (S : Sim G μ st H) (l : Lo G μ ρ σ H) (cu : CurOk G μ H cur J) (p : PostS G W D μ H (forC g body cur n 0 ρ st)) :
    ∃ V : Nat → Nat → Sl → Hp → Prop, (∃ m, V 0 m σ H) ∧ ∀ i m σ H, V i m σ H →
      (J.stop i H ∧ D.nx σ H) ∨ (J.go i H ∧ ∃ N : Sl → Hp → Prop, (∀ σ' H', N σ' H' → ∃ m', m' < m ∧ V (i + 1) m' σ' H') ∧ ∀ x H', J.yld i H x H' → tGt G vs g x σ H' fun σ2 H2 => tS G W body { D with nx := N, ct := N, bk := D.nx } σ2 H2) := by
  refine ⟨fun i m σ2 H2 => ∃ μ2 ρ2 st2, Step μ H μ2 H2 ∧ Sim G μ2 st2 H2 ∧ Lo G μ2 ρ2 σ2 H2 ∧ PostS G W D μ2 H2 (forC g body cur m i ρ2 st2), ⟨n, μ, ρ, st, Step.refl _ _, S, l, p⟩, ?_⟩
  rintro i m σ2 H2 ⟨μ2, ρ2, st2, s2, S2, l2, p2⟩
  have y : Yld G μ2 H2 i J (cur i st2) := cu.run G.hid μ2 st2 H2 i (fun a h => .inl h) s2.x S2
  cases m with
  | zero => exact p2.elim
  | succ m =>
    unfold forC at p2
    cases e : cur i st2 with
    | none => rw [e] at p2; exact p2.elim
    | some o =>
      rw [e] at p2 y
      cases o with
      | none => exact .inl ⟨y, p2 μ2 σ2 H2 (Step.refl _ _) S2 l2⟩
      | some d =>
        obtain ⟨y1, y2⟩ := y
        cases eg : g d ρ2 with
        | none => simp only [eg] at p2; exact p2.elim
        | some ρ3 =>
          simp only [eg] at p2
          refine .inr ⟨y1, fun σ' H' => ∃ m', m' < m + 1 ∧ ∃ μ2 ρ2 st2, Step μ H μ2 H' ∧ Sim G μ2 st2 H' ∧ Lo G μ2 ρ2 σ' H' ∧ PostS G W D μ2 H' (forC g body cur m' (i + 1) ρ2 st2), fun σ' H' h => h, fun x H3 hy => ?_⟩
          obtain ⟨h3, r⟩ := y2 x H3 hy
          have s3 : Step μ2 H2 μ2 H3 ∧ Sim G μ2 st2 H3 := by
            rcases h3 with rfl | ⟨T, u, n, rfl⟩
            · exact ⟨Step.refl _ _, S2⟩
            · exact ⟨step_new n, S2.new n⟩
          refine ⟨μ2, ρ2, d, ρ3, l2.step s3.1, r, eg, fun σ4 l4 _ => ⟨μ2, ρ3, st2, s3.2, l4, ?_⟩⟩
          have p3 : PostS G W D μ2 H3 (match body ρ3 st2 with
            | .nx ρ2 st2 => forC g body cur m (i + 1) ρ2 st2
            | .ct ρ2 st2 => forC g body cur m (i + 1) ρ2 st2
            | .bk ρ2 st2 => .nx ρ2 st2
            | r => r) := p2.shift s3.1
          cases eb : body ρ3 st2 with
          | nx ρ5 st5 =>
            rw [eb] at p3
            exact fun μ5 σ5 H5 s5 S5 l5 => ⟨m, Nat.lt_succ_self m, μ5, ρ5, st5, (s2.trans s3.1).trans s5, S5, l5, PostS.shift (r := forC g body cur m (i + 1) ρ5 st5) s5 p3⟩
          | ct ρ5 st5 =>
            rw [eb] at p3
            exact fun μ5 σ5 H5 s5 S5 l5 => ⟨m, Nat.lt_succ_self m, μ5, ρ5, st5, (s2.trans s3.1).trans s5, S5, l5, PostS.shift (r := forC g body cur m (i + 1) ρ5 st5) s5 p3⟩
          | bk ρ5 st5 => rw [eb] at p3; exact p3
          | rt d st5 => rw [eb] at p3; exact p3
          | exn c st5 => rw [eb] at p3; exact p3
          | stuck => rw [eb] at p3; exact p3
theorem ts_for {tg iter : Expr} {body : List Stmt} {vs : List Nat} {fi : SI} {g : SG} {f : SS} {pos : Pos} (hp : PassesOwn (model X.prog X.w) X.A X.env X.xe) (hc : X.calm = true) (wc : WCl X W) (hi : PI X tg iter (tI X G W fi)) (hg : PG X tg (tGt G vs g)) (hb : PSs X body (tS G W f))
    (hs : ∀ x, foldedSetIterable iter X.env x = pure x) : PS X (.For tg iter body [] pos) (tS G W (sForS fi g f)) :=
  PSimp' (ps_unl (ps_for hp hc hi hg hb hs)) fun D σ H ⟨μ, ρ, st, q⟩ => by
    have p : PostS G W D μ H (sForS fi g f ρ st) := q.post
    unfold sForS at p
    refine ⟨μ, ρ, st, q.sim, q.lo, ?_⟩
    cases e : fi ρ st with
    | ok w st1 =>
      rw [e] at p
      exact fun μ1 H1 J s S cu lk => for_core (vs := vs) S (q.lo.step s) cu (PostS.unl s lk wc p)
    | exn c st1 => rw [e] at p; exact fun μ1 H1 s S => p μ1 σ H1 s S
    | stuck => rw [e] at p; exact p
theorem ts_while {c : Expr} {body : List Stmt} {t : ST} {f : SS} {pos : Pos} (hp : PassesOwn (model X.prog X.w) X.A X.env X.xe) (hc : PT X c (tT G W t)) (hb : PSs X body (tS G W f)) {n : Nat} : PS X (.While c body [] pos) (tS G W (whileN t f n)) :=
  PSimp' (ps_while hp hc hb) fun D σ H ⟨μ, ρ, st, q⟩ => by
    refine ⟨fun m σ2 H2 => ∃ μ2 ρ2 st2, Sim G μ2 st2 H2 ∧ Lo G μ2 ρ2 σ2 H2 ∧ PostS G W D μ2 H2 (whileN t f m ρ2 st2), ⟨n, μ, ρ, st, q.sim, q.lo, q.post⟩, ?_⟩
    rintro m σ2 H2 ⟨μ2, ρ2, st2, S2, l2, p2⟩
    cases m with
    | zero => exact p2.elim
    | succ m =>
      unfold whileN at p2
      refine ⟨μ2, ρ2, st2, S2, l2, ?_⟩
      cases e : t ρ2 st2 with
      | exn c st1 => rw [e] at p2; exact fun μ1 H1 s S => p2 μ1 σ2 H1 s S
      | stuck => rw [e] at p2; exact p2
      | ok b st1 =>
        rw [e] at p2
        intro μ3 H3 v s3 S3 r
        subst r
        cases b with
        | false => exact p2 μ3 σ2 H3 s3 S3 (l2.step s3)
        | true =>
          simp only [if_true]
          refine ⟨fun σ' H' => ∃ m', m' < m + 1 ∧ ∃ μ2 ρ2 st2, Sim G μ2 st2 H' ∧ Lo G μ2 ρ2 σ' H' ∧ PostS G W D μ2 H' (whileN t f m' ρ2 st2), fun σ' H' h => h, μ3, ρ2, st1, S3, l2.step s3, ?_⟩
          have p3 : PostS G W D μ3 H3 (match f ρ2 st1 with
            | .nx ρ2 st2 => whileN t f m ρ2 st2
            | .ct ρ2 st2 => whileN t f m ρ2 st2
            | .bk ρ2 st2 => .nx ρ2 st2
            | r => r) := PostS.shift s3 p2
          cases eb : f ρ2 st1 with
          | nx ρ5 st5 =>
            rw [eb] at p3
            exact fun μ5 σ5 H5 s5 S5 l5 => ⟨m, Nat.lt_succ_self m, μ5, ρ5, st5, S5, l5, PostS.shift (r := whileN t f m ρ5 st5) s5 p3⟩
          | ct ρ5 st5 =>
            rw [eb] at p3
            exact fun μ5 σ5 H5 s5 S5 l5 => ⟨m, Nat.lt_succ_self m, μ5, ρ5, st5, S5, l5, PostS.shift (r := whileN t f m ρ5 st5) s5 p3⟩
          | bk ρ5 st5 => rw [eb] at p3; exact p3
          | rt d st5 => rw [eb] at p3; exact p3
          | exn c st5 => rw [eb] at p3; exact p3
          | stuck => rw [eb] at p3; exact p3
end
end Bk

namespace Bk
open L2 PyProof.Rows PySem.Spec PySem

/-! ## Comprehensions -/
abbrev WF : WX := fun _ _ _ _ => False
/-- whatever is hidden -/
abbrev xE (G : Gl0) (W : WX) (f : SE) : TE := fun σ H Q => ∃ h, tE (G.wh h) W f σ H Q
abbrev xT (G : Gl0) (W : WX) (f : ST) : TT := fun σ H Q => ∃ h, tT (G.wh h) W f σ H Q
abbrev xG (G : Gl0) (vs : List Nat) (g : SG) : TG := fun v σ H Q => ∃ h, tGt (G.wh h) vs g v σ H Q
theorem pe_x {X : Cx} {G : Gl0} {W : WX} {e : Expr} {f : SE} (h : ∀ h, PE X e (tE (G.wh h) W f)) : PE X e (xE G W f) := ⟨fun pins s σ H Q I ⟨k, q⟩ => (h k).run pins s σ H Q I q⟩
theorem pts_x {X : Cx} {G : Gl0} {W : WX} {e : List Expr} {f : ST} (h : ∀ h, PTs X e (tT (G.wh h) W f)) : PTs X e (xT G W f) := ⟨fun pins s σ H Q I ⟨k, q⟩ => (h k).run pins s σ H Q I q⟩
theorem pg_x {X : Cx} {G : Gl0} {vs : List Nat} {e : Expr} {g : SG} (h : ∀ h, PG X e (tGt (G.wh h) vs g)) : PG X e (xG G vs g) := ⟨fun pins s σ H v u Q I r ⟨k, q⟩ => (h k).run pins s σ H v u Q I r q⟩
section
variable {X : Cx} {G : Gl0} {W : WX} {μ μ' : List Addr} {st : Store} {ρ : Lc} {σ : Sl} {H H' : Hp}
theorem pts_yes : PTs X [] (tT G W fun _ st => .ok true st) := ⟨fun pins s σ H Q I ⟨μ, ρ, st, q⟩ => (pts_nil (X := X)).run pins s σ H Q I (q.val rfl)⟩
theorem wipe_idem (σ : Sl) (vs : List Nat) : wipe (wipe σ vs) vs = wipe σ vs := by
  apply List.ext_getElem?
  intro i
  rw [wipe_get, wipe_get, wipe_len]
  by_cases h : i ∈ vs <;> simp [h]
/-- letting go, for a value -/
theorem Post.unl {lk : Option Nat} {μ0 : List Addr} {H0 : Hp} {r : R D} {Q : VK} (s0 : Step μ0 H0 μ H) (hlk : LkOk X μ H0 lk) (wc : WCl X W) (p : Post G W (Rep G) μ0 H0 σ Q (unlkR lk r)) :
    Post G W (Rep G) μ H σ (fun v H1 => ∃ H2, UH X H1 H2 ∧ Q v H2) r := by
  cases r with
  | ok d st =>
    intro μ' H' v s S r
    cases e : unlk lk st with
    | none => unfold unlkR at p; simp only [e] at p; exact p.elim
    | some st' =>
      unfold unlkR at p; simp only [e] at p
      obtain ⟨H2, u, s2, S2, rr⟩ := unlk_ok s0 hlk s S e
      exact ⟨H2, u, p μ' H2 v s2 S2 (rr _ _ r)⟩
  | exn c st =>
    intro μ' H' s S
    cases e : unlk lk st with
    | none => unfold unlkR at p; simp only [e] at p; exact p.elim
    | some st' =>
      unfold unlkR at p; simp only [e] at p
      obtain ⟨H2, u, s2, S2, rr⟩ := unlk_ok s0 hlk s S e
      exact wc _ _ _ _ _ u (p μ' H2 s2 S2)
  | stuck => exact p
/-- what is being made is changed -/
theorem step_hid {p : Addr} {u : HO} (s : Step μ H μ' H') (n : H p = none) : Step μ H μ' (upd H' p u) where
  pre := s.pre
  keep := fun a o h e hx => by rw [upd_ne (ne_of_none e n)]; exact s.keep a o h e hx
  keepD := fun a o h e hx => by
    have := s.keepD a o h e hx
    unfold Rd at this ⊢
    rw [upd_ne (ne_of_none e n)]
    exact this
  there := fun a o e => by
    obtain ⟨o2, e2⟩ := s.there a o e
    exact ⟨o2, by rw [upd_ne (ne_of_none e n)]; exact e2⟩
  lock := fun a o u' e => by rw [upd_ne (ne_of_none e n)]; exact s.lock a o u' e
theorem step_thaw {p : Addr} (s : Step μ H μ' H') (n : H p = none) : Step μ H (μ' ++ [p]) H' := by
  obtain ⟨ν, e, f⟩ := s.pre
  exact ⟨⟨ν ++ [p], by rw [e, List.append_assoc], fun a ha => by
    rcases List.mem_append.mp ha with h | h
    · exact f a h
    · rw [List.mem_singleton.mp h]; exact n⟩, s.keep, s.keepD, s.there, s.lock⟩
theorem cary_in {p : Addr} (s : Step μ H μ' H') (n : H p = none) : Cary G.hid μ H (p :: G.hid) μ' H' :=
  cary_up (G := G) (fun a ha => (List.mem_cons.mp ha).elim (fun e => .inr (by rw [e]; exact n)) .inl) s.x
/-- a made list is handed out -/
theorem made {m : Bool} {p : Addr} {μ1 : List Addr} {H1 : Hp} {st1 : Store} {ds : List D} {xs : List V} {Q : VK} (S1 : Sim G μ1 st1 H1) (n : H1 p = none) (s : Step μ1 H1 μ H) (S : Sim (G.hide p) μ st H) (e : H p = some (.lst xs)) (r : RepL (G.hide p) μ H ds xs)
    (q : Post G W (Rep G) μ1 H1 σ Q (noExn (mkB m ds st))) : Q (.ref p) H := by
  unfold mkB at q
  split at q
  · unfold mkF at q
    cases m with
    | false => exact q μ H _ s S.show' (.lst ⟨(S.hid p (List.mem_cons_self ..)).1, (S1.fz n).2⟩ e (RepL.cary (G := G) cary_show _ _ r))
    | true =>
      refine q (μ ++ [p]) H _ (step_thaw s n) (S.thaw (S1.fz n).2 ⟨xs, e, RepL.cary (G := G) cary_thaw _ _ r⟩) (.ref ?_)
      rw [← S.len]; simp
  · exact q.elim
theorem noExn_bind {α β : Type} {r : R α} {k : α → Store → R β} : noExn (r.bind k) = noExn ((noExn r).bind k) := by cases r <;> rfl
theorem bind_bind {α β γ : Type} {r : R α} {k : α → Store → R β} {j : β → Store → R γ} : (r.bind k).bind j = r.bind fun a st => (k a st).bind j := by cases r <;> rfl
/-- the walk of a comprehension -/
theorem comp_core {m : Bool} {J : It} {vs : List Nat} {cur : Cur} {n : Nat} {g : SG} {t : ST} {f : SE} {Q : VK} (S : Sim G μ st H) (l : Lo G μ ρ σ H) (cu : CurOk G μ H cur J)
    (p : Post G W (Rep G) μ H σ Q (noExn ((compC g t f (wipeD ρ vs) cur n 0 st).bind fun ys st2 => mkB m ys st2))) :
    ∀ p, H p = none → ∃ V : Nat → Nat → Hp → Prop, (∃ m, V 0 m (upd H p (.lst []))) ∧ ∀ i m H, V i m H →
      (J.stop i H ∧ Q (.ref p) H) ∨ (J.go i H ∧ ∃ Nx : Hp → Prop, (∀ H', Nx H' → ∃ m', m' < m ∧ V (i + 1) m' H') ∧ ∀ x H', J.yld i H x H' → xG G vs g x (wipe σ vs) H' fun σ2 H2 => wipe σ2 vs = wipe σ vs ∧ xT G WF t σ2 H2 fun b H3 =>
        if b = true then xE G WF f σ2 H3 fun y H4 => ∃ acc, H4 p = some (.lst acc) ∧ acc.length < sizeLine ∧ Nx (upd H4 p (.lst (acc ++ [y]))) else Nx H3) := by
  intro p0 hp0
  let V : Nat → Nat → Hp → Prop := fun i n H2 => ∃ μ2 st2 dacc acc, Step μ H μ2 H2 ∧ Sim (G.hide p0) μ2 st2 H2 ∧ H2 p0 = some (.lst acc) ∧ RepL (G.hide p0) μ2 H2 dacc acc ∧
    Post G W (Rep G) μ H σ Q (noExn ((compC g t f (wipeD ρ vs) cur n i st2).bind fun ys st3 => mkB m (dacc ++ ys) st3))
  refine ⟨V, ⟨n, μ, st, [], [], step_new hp0, S.hide hp0 trivial, upd_same, .nil, p⟩, ?_⟩
  rintro i n2 H2 ⟨μ2, st2, dacc, acc, s2, S2, e2, r2, p2⟩
  have y : Yld (G.hide p0) μ2 H2 i J (cur i st2) := cu.run (p0 :: G.hid) μ2 st2 H2 i (fun a ha => (List.mem_cons.mp ha).elim (fun e => .inr (by rw [e]; exact hp0)) .inl) s2.x S2
  cases n2 with
  | zero => exact p2.elim
  | succ n2 =>
    unfold compC at p2
    cases e : cur i st2 with
    | none => rw [e] at p2; exact p2.elim
    | some o =>
      rw [e] at p2 y
      cases o with
      | none =>
        have p3 : Post G W (Rep G) μ H σ Q (noExn (mkB m (dacc ++ []) st2)) := p2
        rw [List.append_nil] at p3
        exact .inl ⟨y, made S hp0 s2 S2 e2 r2 p3⟩
      | some d =>
        obtain ⟨y1, y2⟩ := y
        cases eg : g d (wipeD ρ vs) with
        | none => simp only [eg] at p2; exact p2.elim
        | some ρ3 =>
          simp only [eg] at p2
          refine .inr ⟨y1, fun H' => ∃ m', m' < n2 + 1 ∧ V (i + 1) m' H', fun H' h => h, fun x H3 hy => ?_⟩
          obtain ⟨h3, r⟩ := y2 x H3 hy
          have s3 : Step μ2 H2 μ2 H3 ∧ Sim (G.hide p0) μ2 st2 H3 := by
            rcases h3 with rfl | ⟨T, u, n, rfl⟩
            · exact ⟨Step.refl _ _, S2⟩
            · exact ⟨step_new n, S2.new n⟩
          have np : p0 ∉ μ2 := (S2.hid p0 (List.mem_cons_self ..)).1
          have e3 : H3 p0 = some (.lst acc) := s3.1.keep _ _ np e2 trivial
          have lw : Lo (G.hide p0) μ2 (wipeD ρ vs) (wipe σ vs) H3 := Lo.cary (G := G) (cary_in (s2.trans s3.1) hp0) (l.wipe vs)
          refine ⟨p0 :: G.hid, μ2, wipeD ρ vs, d, ρ3, lw, r, eg, fun σ4 l4 k4 => ⟨by rw [k4.wipe, wipe_idem], p0 :: G.hid, μ2, ρ3, st2, s3.2, l4, ?_⟩⟩
          cases et : t ρ3 st2 with
          | exn c st5 => rw [et] at p2; exact p2.elim
          | stuck => rw [et] at p2; exact p2.elim
          | ok b st5 =>
            rw [et] at p2
            intro μ5 H5 b' s5 S5 eb
            subst eb
            have np5 : p0 ∉ μ5 := (S5.hid p0 (List.mem_cons_self ..)).1
            cases b with
            | false =>
              exact ⟨n2, Nat.lt_succ_self _, μ5, st5, dacc, acc, (s2.trans s3.1).trans s5, S5, s5.keep _ _ np e3 trivial, RepL.step (s3.1.trans s5) _ _ r2, p2⟩
            | true =>
              refine ⟨p0 :: G.hid, μ5, ρ3, st5, S5, l4.step s5, ?_⟩
              cases ef : f ρ3 st5 with
              | exn c st6 =>
                have p3 : Post G W (Rep G) μ H σ Q (noExn (((f ρ3 st5).bind fun y st3 => (compC g t f (wipeD ρ vs) cur n2 (i + 1) st3).bind fun ys st4 => .ok (y :: ys) st4).bind fun ys st3 => mkB m (dacc ++ ys) st3)) := p2
                rw [ef] at p3; exact p3.elim
              | stuck =>
                have p3 : Post G W (Rep G) μ H σ Q (noExn (((f ρ3 st5).bind fun y st3 => (compC g t f (wipeD ρ vs) cur n2 (i + 1) st3).bind fun ys st4 => .ok (y :: ys) st4).bind fun ys st3 => mkB m (dacc ++ ys) st3)) := p2
                rw [ef] at p3; exact p3.elim
              | ok dy st6 =>
                have p3 : Post G W (Rep G) μ H σ Q (noExn (((f ρ3 st5).bind fun y st3 => (compC g t f (wipeD ρ vs) cur n2 (i + 1) st3).bind fun ys st4 => .ok (y :: ys) st4).bind fun ys st3 => mkB m (dacc ++ ys) st3)) := p2
                rw [ef] at p3
                have p4 : Post G W (Rep G) μ H σ Q (noExn ((compC g t f (wipeD ρ vs) cur n2 (i + 1) st6).bind fun ys st3 => mkB m ((dacc ++ [dy]) ++ ys) st3)) := by
                  have e9 : (fun ys st3 => mkB m ((dacc ++ [dy]) ++ ys) st3) = fun ys st3 => mkB m (dacc ++ dy :: ys) st3 := by
                    funext ys st3
                    rw [List.append_assoc]
                    rfl
                  rw [e9]
                  have p5 : Post G W (Rep G) μ H σ Q (noExn (((compC g t f (wipeD ρ vs) cur n2 (i + 1) st6).bind fun ys st4 => .ok (dy :: ys) st4).bind fun ys st3 => mkB m (dacc ++ ys) st3)) := p3
                  rw [bind_bind] at p5
                  exact p5
                intro μ6 H6 y s6 S6 ry
                have e5 : H5 p0 = some (.lst acc) := s5.keep _ _ np e3 trivial
                have e6 : H6 p0 = some (.lst acc) := s6.keep _ _ np5 e5 trivial
                have r6 : RepL (G.hide p0) μ6 H6 dacc acc := RepL.step ((s3.1.trans s5).trans s6) _ _ r2
                refine ⟨acc, e6, ?_, n2, Nat.lt_succ_self _, μ6, st6, dacc ++ [dy], acc ++ [y], step_hid (((s2.trans s3.1).trans s5).trans s6) hp0, Sim.updH (G := G) S6 (List.mem_cons_self ..) trivial, upd_same, RepL.cary (G := G) (cary_upd (List.mem_cons_self ..)) _ _ (r6.app (.cons ry .nil)), p4⟩
                cases ec : compC g t f (wipeD ρ vs) cur n2 (i + 1) st6 with
                | exn c st7 => rw [ec] at p4; exact p4.elim
                | stuck => rw [ec] at p4; exact p4.elim
                | ok ys st7 =>
                  rw [ec] at p4
                  have p5 : Post G W (Rep G) μ H σ Q (noExn (mkB m ((dacc ++ [dy]) ++ ys) st7)) := p4
                  unfold mkB at p5
                  split at p5
                  · rename_i hl
                    rw [← r6.len, ← big_eq]
                    simp only [List.length_append, List.length_cons, List.length_nil] at hl
                    omega
                  · exact p5.elim
end
end Bk

namespace Bk
open L2 PyProof.Rows PySem.Spec PySem

section
variable {X : Cx} {G : Gl0} {W : WX}
theorem run_lc {m : Bool} {vs : List Nat} {fi : SI} {g : SG} {t : ST} {f : SE} {σ : Sl} {H : Hp} {Q : VK} (wc : WCl X W) (q : tE G W (sComp m vs fi g t f) σ H Q) :
    tLc (tI X G W fi) (xG G vs g) (xT G WF t) (xE G WF f) vs σ H (fun v H1 => ∃ H2, UH X H1 H2 ∧ Q v H2) := by
  obtain ⟨μ, ρ, st, q⟩ := q
  refine ⟨μ, ρ, st, q.sim, q.lo, ?_⟩
  have p : Post G W (Rep G) μ H σ Q ((fi ρ st).bind fun w st1 => unlkR w.lk (noExn ((compC g t f (wipeD ρ vs) w.cur w.n 0 st1).bind fun ys st2 => mkB m ys st2))) := q.post
  cases e : fi ρ st with
  | ok w st1 =>
    rw [e] at p
    exact fun μ1 H1 J s S cu lk => comp_core S (q.lo.step s) cu (Post.unl s lk wc p)
  | exn c st1 => rw [e] at p; exact p
  | stuck => rw [e] at p; exact p
theorem t_comp {m : Bool} {elt tg iter : Expr} {ifs : List Expr} {scope : Scope} {own : List (Str × Nat)} {pos : Pos} {fi : SI} {g : SG} {t : ST} {f : SE} (wc : WCl X W) (hc : X.calm = true) (hN : X.N.Nodup) (hi : PI X tg iter (tI X G W fi)) (ok : BlkOk X.N X.env.scope scope own)
    (hg : ∀ (s : Shared) (H : Hp) (C : Addr) (cl : List (Str × Addr)) (fp : List Addr) h, PG (X.blk s H scope (compEnvC scope cl C X.env) fp) tg (tGt (G.wh h) (own.map (·.2)) g))
    (ht : ∀ (s : Shared) (H : Hp) (C : Addr) (cl : List (Str × Addr)) (fp : List Addr) h, PTs (X.blk s H scope (compEnvC scope cl C X.env) fp) ifs (tT (G.wh h) WF t))
    (he : ∀ (s : Shared) (H : Hp) (C : Addr) (cl : List (Str × Addr)) (fp : List Addr) h, PE (X.blk s H scope (compEnvC scope cl C X.env) fp) elt (tE (G.wh h) WF f)) (hs : ∀ x, foldedSetIterable iter X.env x = pure x) :
    PE X (.ListComp elt [⟨tg, iter, ifs, 0⟩] scope pos) (tE G W (sComp m (own.map (·.2)) fi g t f)) :=
  PEimp (pe_unl (pe_lc hc hN hi ok (fun s H C cl fp => pg_x (hg s H C cl fp)) (fun s H C cl fp => pts_x (ht s H C cl fp)) (fun s H C cl fp => pe_x (he s H C cl fp)) hs)) fun σ H Q q => run_lc wc q
/-- x = [..]: the name takes the list -/
theorem ts_setLc {m : Bool} {i : Nat} {y : Str} {py : Pos} {elt tg iter : Expr} {ifs : List Expr} {scope : Scope} {own : List (Str × Nat)} {pos spos : Pos} {fi : SI} {g : SG} {t : ST} {f : SE} (wc : WCl X W) (hc : X.calm = true) (hN : X.N.Nodup) (hy : X.N[i]? = some y) (hyl : X.env.scope.names.lookup y = some .local)
    (hsw : swapsWith (.ListComp elt [⟨tg, iter, ifs, 0⟩] scope pos) (some (.Name y py)) spos.line X.env = pure true) (hi : PI X tg iter (tI X G W fi)) (ok : BlkOk X.N X.env.scope scope own)
    (hg : ∀ (s : Shared) (H : Hp) (C : Addr) (cl : List (Str × Addr)) (fp : List Addr) h, PG (X.blk s H scope (compEnvC scope cl C X.env) fp) tg (tGt (G.wh h) (own.map (·.2)) g))
    (ht : ∀ (s : Shared) (H : Hp) (C : Addr) (cl : List (Str × Addr)) (fp : List Addr) h, PTs (X.blk s H scope (compEnvC scope cl C X.env) fp) ifs (tT (G.wh h) WF t))
    (he : ∀ (s : Shared) (H : Hp) (C : Addr) (cl : List (Str × Addr)) (fp : List Addr) h, PE (X.blk s H scope (compEnvC scope cl C X.env) fp) elt (tE (G.wh h) WF f)) (hs : ∀ x, foldedSetIterable iter X.env x = pure x) :
    PS X (.Assign [.Name y py] (.ListComp elt [⟨tg, iter, ifs, 0⟩] scope pos) spos) (tS G W (sAsg (sComp m (own.map (·.2)) fi g t f) (gName' i))) := by
  have h := ps_setLc hc hN hy hyl hsw hi ok (fun s H C cl fp => pg_x (hg s H C cl fp)) (fun s H C cl fp => pts_x (ht s H C cl fp)) (fun s H C cl fp => pe_x (he s H C cl fp)) hs
  refine PSimp' (ps_unl h) fun D σ H ⟨μ, ρ, st, q⟩ => ?_
  exact run_lc (Q := fun v H2 => D.nx (σ.set i (some v)) H2) wc ⟨μ, ρ, st, (RunS.bindE (r := sComp m (own.map (·.2)) fi g t f ρ st) q).imp fun x H1 ⟨μ1, d, st1, s1, r, q1⟩ => by
    unfold gName' at q1
    split at q1
    · rename_i ρ1 e
      split at e
      · cases e
        exact q1.post μ1 _ H1 (Step.refl _ _) q1.sim (q1.lo.set r)
      · cases e
    · exact q1.post.elim⟩
/-! two fors -/
/-- an iterable that holds nothing -/
def tI0 (G : Gl0) (W : WX) (f : SI) : TI := fun σ H R => ∃ μ ρ st, Sim G μ st H ∧ Lo G μ ρ σ H ∧ match f ρ st with
  | .ok w st1 => w.lk = none ∧ ∀ μ' H' J, Step μ H μ' H' → Sim G μ' st1 H' → CurOk G μ' H' w.cur J → R J H'
  | .exn c st1 => ∀ μ' H', Step μ H μ' H' → Sim G μ' st1 H' → W (.ref (G.exc c)) none σ H'
  | .stuck => False
abbrev xI (G : Gl0) (W : WX) (f : SI) : TI := fun σ H R => ∃ h, tI0 (G.wh h) W f σ H R
theorem pi_x {tg e : Expr} {f : SI} (h : ∀ h, PI X tg e (tI X (G.wh h) W f)) : PI X tg e (xI G W f) := ⟨fun pins s σ H R I ⟨k, μ, ρ, st, S, l, q⟩ => (h k).run pins s σ H R I ⟨μ, ρ, st, S, l, by
  cases e : f ρ st with
  | ok w st1 => rw [e] at q; exact fun μ' H' J s S c _ => q.2 μ' H' J s S c
  | exn c st1 => rw [e] at q; exact q
  | stuck => rw [e] at q; exact q⟩⟩
theorem step_off {p : Addr} {μ μ' : List Addr} {H H2 H3 : Hp} (s : Step μ H μ' H2) (n : H p = none) (h : ∀ a, a ≠ p → H3 a = H2 a) : Step μ H μ' H3 :=
  ⟨s.pre, fun a o h1 e hx => by rw [h a (ne_of_none e n)]; exact s.keep a o h1 e hx, fun a o h1 e hx => by
    have := s.keepD a o h1 e hx
    unfold Rd at this ⊢
    rw [h a (ne_of_none e n)]
    exact this, fun a o e => by
    obtain ⟨o2, e2⟩ := s.there a o e
    exact ⟨o2, by rw [h a (ne_of_none e n)]; exact e2⟩, fun a o u' e => by rw [h a (ne_of_none e n)]; exact s.lock a o u' e⟩
/-- a step past what is being made -/
theorem step_pass {p : Addr} {μ0 μ2 μ3 : List Addr} {H0 H2 H3 : Hp} {u v : HO} (s : Step μ0 H0 μ2 (upd H2 p u)) (e0 : H0 p = some u) (e2 : H2 p = some v) (s3 : Step μ2 H2 μ3 H3) (hf : ∀ o w, u ≠ .frz o w) : Step μ0 H0 μ3 (upd H3 p u) := by
  obtain ⟨ν, hν, fν⟩ := s.pre
  obtain ⟨ν', hν', fν'⟩ := s3.pre
  have old : ∀ a o, a ≠ p → H0 a = some o → ∃ o', H2 a = some o' := fun a o z e => by
    obtain ⟨o', e'⟩ := s.there a o e
    rw [upd_ne z] at e'
    exact ⟨o', e'⟩
  have ni : ∀ a o, a ∉ μ0 → H0 a = some o → a ∉ μ2 := fun a o h e => s.notin h e
  refine ⟨⟨ν ++ ν', by rw [hν', hν, List.append_assoc], fun a ha => ?_⟩, fun a o h e hx => ?_, fun a o h e hx => ?_, fun a o e => ?_, fun a o w e => ?_⟩
  · rcases List.mem_append.mp ha with h | h
    · exact fν a h
    · have n2 := fν' a h
      cases q : H0 a with
      | none => rfl
      | some o =>
        have z : a ≠ p := fun z => by rw [z, e2] at n2; cases n2
        obtain ⟨o', e'⟩ := old a o z q
        rw [n2] at e'; cases e'
  · by_cases z : a = p
    · subst z; rw [upd_same]; rw [e0] at e; exact e
    · rw [upd_ne z]
      have := s.keep a o h e hx
      rw [upd_ne z] at this
      exact s3.keep a o (ni a o h e) this hx
  · by_cases z : a = p
    · subst z; rw [e0] at e; cases e; exact .inl upd_same
    · have q := s.keepD a o h e hx
      have : Rd H2 a o := by unfold Rd at q ⊢; rw [upd_ne z] at q; exact q
      have := (s3.rd (ni a o h e) (fun ps w => by subst w; exact hx) this).2
      unfold Rd at this ⊢
      rw [upd_ne z]; exact this
  · by_cases z : a = p
    · exact ⟨u, by rw [z, upd_same]⟩
    · obtain ⟨o', e'⟩ := old a o z e
      obtain ⟨o2, e2⟩ := s3.there a o' e'
      exact ⟨o2, by rw [upd_ne z]; exact e2⟩
  · by_cases z : a = p
    · subst z; rw [e0] at e; cases e; exact absurd rfl (hf o w)
    · have := s.lock a o w e
      rw [upd_ne z] at this
      rw [upd_ne z]; exact s3.lock a o w this
theorem CurOk.move {p : Addr} {μ μ0 : List Addr} {H H0 : Hp} {cur : Cur} {J : It} (c : CurOk G μ H cur J) (s : Step μ H μ0 H0) (n : H p = none) : CurOk (G.hide p) μ0 H0 cur J := ⟨fun h μ' st' H' i hh ⟨H2, s2, hx⟩ S => c.run h μ' st' H' i (fun a ha => by
  rcases hh a ha with z | z
  · rcases List.mem_cons.mp z with z | z
    · exact .inr (by rw [z]; exact n)
    · exact .inl z
  · right
    cases e : H a with
    | none => rfl
    | some o => obtain ⟨o', e'⟩ := s.there a o e; rw [z] at e'; cases e') ⟨fun a => if a ∈ p :: G.hid then (if a = p then H' a else H2 a) else H' a, step_off (s.trans s2) n fun a ha => by
    by_cases hm : a ∈ p :: G.hid
    · simp [hm, ha]
    · simp only [hm, if_false]; exact hx a hm, fun a ha => by
    by_cases hm : a ∈ p :: G.hid
    · have : a = p := (List.mem_cons.mp hm).elim id fun z => absurd z ha
      simp [hm, this]
    · simp only [hm, if_false]⟩ S⟩
/-- a walk that adds to what is being made; K: what follows then -/
theorem walk_core {J : It} {vs : List Nat} {cur : Cur} {n : Nat} {g : SG} {t : ST} {f : SE} {Q : VK} {p : Addr} {K : List D → Store → R D} {Fin : Hp → Prop} {μ1 μ0 : List Addr} {H1 H0 : Hp} {st0 : Store} {σ σ0 : Sl} {ρ0 : Lc} {dacc0 : List D} {acc0 : List V}
    (hp : H1 p = none) (s0 : Step μ1 H1 μ0 H0) (S0 : Sim (G.hide p) μ0 st0 H0) (l0 : Lo (G.hide p) μ0 ρ0 σ0 H0) (e0 : H0 p = some (.lst acc0)) (r0 : RepL (G.hide p) μ0 H0 dacc0 acc0) (cu : CurOk (G.hide p) μ0 H0 cur J)
    (hK : ∀ ds st, Post G W (Rep G) μ1 H1 σ Q (noExn (K ds st)) → ds.length ≤ big)
    (hF : ∀ μ' st' ds xs H', Step μ1 H1 μ' H' → Step μ0 H0 μ' (upd H' p (.lst acc0)) → Sim (G.hide p) μ' st' H' → H' p = some (.lst xs) → RepL (G.hide p) μ' H' ds xs → Post G W (Rep G) μ1 H1 σ Q (noExn (K ds st')) → Fin H')
    (q0 : Post G W (Rep G) μ1 H1 σ Q (noExn ((compC g t f ρ0 cur n 0 st0).bind fun ys st => K (dacc0 ++ ys) st))) :
    ∃ V : Nat → Nat → Hp → Prop, (∃ m, V 0 m H0) ∧ ∀ i m H, V i m H →
      (J.stop i H ∧ Fin H) ∨ (J.go i H ∧ 0 < m ∧ ∃ Nx : Hp → Prop, (∀ H', Nx H' → ∃ m', m' < m ∧ V (i + 1) m' H') ∧ ∀ x H', J.yld i H x H' → xG G vs g x σ0 H' fun σ2 H2 => Keeps vs σ0 σ2 ∧ xT G WF t σ2 H2 fun b H3 =>
        if b = true then xE G WF f σ2 H3 fun y H4 => ∃ acc, H4 p = some (.lst acc) ∧ acc.length < sizeLine ∧ Nx (upd H4 p (.lst (acc ++ [y]))) else Nx H3) := by
  let V : Nat → Nat → Hp → Prop := fun i n H2 => ∃ μ2 st2 dacc acc, Step μ1 H1 μ2 H2 ∧ Step μ0 H0 μ2 (upd H2 p (.lst acc0)) ∧ Sim (G.hide p) μ2 st2 H2 ∧ H2 p = some (.lst acc) ∧ RepL (G.hide p) μ2 H2 dacc acc ∧
    Post G W (Rep G) μ1 H1 σ Q (noExn ((compC g t f ρ0 cur n i st2).bind fun ys st3 => K (dacc ++ ys) st3))
  have self : upd H0 p (.lst acc0) = H0 := by
    funext a
    by_cases z : a = p
    · subst z; rw [upd_same, e0]
    · rw [upd_ne z]
  refine ⟨V, ⟨n, μ0, st0, dacc0, acc0, s0, by rw [self]; exact Step.refl _ _, S0, e0, r0, q0⟩, ?_⟩
  rintro i n2 H2 ⟨μ2, st2, dacc, acc, s2, sx, S2, e2, r2, p2⟩
  have sX : StepX (p :: G.hid) μ0 H0 μ2 H2 := ⟨_, sx, fun a ha => by rw [upd_ne (fun z => ha (by rw [z]; exact List.mem_cons_self ..))]⟩
  have y : Yld (G.hide p) μ2 H2 i J (cur i st2) := cu.run (p :: G.hid) μ2 st2 H2 i (fun a ha => .inl ha) sX S2
  cases n2 with
  | zero => exact p2.elim
  | succ n2 =>
    unfold compC at p2
    cases e : cur i st2 with
    | none => rw [e] at p2; exact p2.elim
    | some o =>
      rw [e] at p2 y
      cases o with
      | none =>
        have p3 : Post G W (Rep G) μ1 H1 σ Q (noExn (K (dacc ++ []) st2)) := p2
        rw [List.append_nil] at p3
        exact .inl ⟨y, hF μ2 st2 dacc acc H2 s2 sx S2 e2 r2 p3⟩
      | some d =>
        obtain ⟨y1, y2⟩ := y
        cases eg : g d ρ0 with
        | none => simp only [eg] at p2; exact p2.elim
        | some ρ3 =>
          simp only [eg] at p2
          refine .inr ⟨y1, Nat.succ_pos _, fun H' => ∃ m', m' < n2 + 1 ∧ V (i + 1) m' H', fun H' h => h, fun x H3 hy => ?_⟩
          obtain ⟨h3, r⟩ := y2 x H3 hy
          have s3 : Step μ2 H2 μ2 H3 ∧ Sim (G.hide p) μ2 st2 H3 := by
            rcases h3 with rfl | ⟨T, u, n, rfl⟩
            · exact ⟨Step.refl _ _, S2⟩
            · exact ⟨step_new n, S2.new n⟩
          have np : p ∉ μ2 := (S2.hid p (List.mem_cons_self ..)).1
          have e3 : H3 p = some (.lst acc) := s3.1.keep _ _ np e2 trivial
          have l2 : Lo (G.hide p) μ2 ρ0 σ0 H2 := Lo.cary (G := G) (cary_up (G := G.hide p) (h := p :: G.hid) (fun a ha => .inl ha) sX) l0
          refine ⟨p :: G.hid, μ2, ρ0, d, ρ3, l2.step s3.1, r, eg, fun σ4 l4 k4 => ⟨k4, p :: G.hid, μ2, ρ3, st2, s3.2, l4, ?_⟩⟩
          cases et : t ρ3 st2 with
          | exn c st5 => rw [et] at p2; exact p2.elim
          | stuck => rw [et] at p2; exact p2.elim
          | ok b st5 =>
            rw [et] at p2
            intro μ5 H5 b' s5 S5 eb
            subst eb
            have np5 : p ∉ μ5 := (S5.hid p (List.mem_cons_self ..)).1
            cases b with
            | false =>
              exact ⟨n2, Nat.lt_succ_self _, μ5, st5, dacc, acc, (s2.trans s3.1).trans s5, step_pass sx e0 e2 (s3.1.trans s5) (fun _ _ z => nomatch z), S5, s5.keep _ _ np e3 trivial, RepL.step (s3.1.trans s5) _ _ r2, p2⟩
            | true =>
              refine ⟨p :: G.hid, μ5, ρ3, st5, S5, l4.step s5, ?_⟩
              have p3 : Post G W (Rep G) μ1 H1 σ Q (noExn (((f ρ3 st5).bind fun y st3 => (compC g t f ρ0 cur n2 (i + 1) st3).bind fun ys st4 => .ok (y :: ys) st4).bind fun ys st3 => K (dacc ++ ys) st3)) := p2
              cases ef : f ρ3 st5 with
              | exn c st6 => rw [ef] at p3; exact p3.elim
              | stuck => rw [ef] at p3; exact p3.elim
              | ok dy st6 =>
                rw [ef] at p3
                have p4 : Post G W (Rep G) μ1 H1 σ Q (noExn ((compC g t f ρ0 cur n2 (i + 1) st6).bind fun ys st3 => K ((dacc ++ [dy]) ++ ys) st3)) := by
                  have e9 : (fun ys st3 => K ((dacc ++ [dy]) ++ ys) st3) = fun ys st3 => K (dacc ++ dy :: ys) st3 := by
                    funext ys st3
                    rw [List.append_assoc]
                    rfl
                  rw [e9]
                  have p5 : Post G W (Rep G) μ1 H1 σ Q (noExn (((compC g t f ρ0 cur n2 (i + 1) st6).bind fun ys st4 => .ok (dy :: ys) st4).bind fun ys st3 => K (dacc ++ ys) st3)) := p3
                  rw [bind_bind] at p5
                  exact p5
                intro μ6 H6 y s6 S6 ry
                have e5 : H5 p = some (.lst acc) := s5.keep _ _ np e3 trivial
                have e6 : H6 p = some (.lst acc) := s6.keep _ _ np5 e5 trivial
                have r6 : RepL (G.hide p) μ6 H6 dacc acc := RepL.step ((s3.1.trans s5).trans s6) _ _ r2
                have sx6 := step_pass sx e0 e2 ((s3.1.trans s5).trans s6) (fun _ _ z => nomatch z)
                refine ⟨acc, e6, ?_, n2, Nat.lt_succ_self _, μ6, st6, dacc ++ [dy], acc ++ [y], step_hid (((s2.trans s3.1).trans s5).trans s6) hp, ?_, Sim.updH (G := G) S6 (List.mem_cons_self ..) trivial, upd_same, RepL.cary (G := G) (cary_upd (List.mem_cons_self ..)) _ _ (r6.app (.cons ry .nil)), p4⟩
                · cases ec : compC g t f ρ0 cur n2 (i + 1) st6 with
                  | exn c st7 => rw [ec] at p4; exact p4.elim
                  | stuck => rw [ec] at p4; exact p4.elim
                  | ok ys st7 =>
                    rw [ec] at p4
                    have hl := hK _ _ (show Post G W (Rep G) μ1 H1 σ Q (noExn (K ((dacc ++ [dy]) ++ ys) st7)) from p4)
                    rw [← r6.len, ← big_eq]
                    simp only [List.length_append, List.length_cons, List.length_nil] at hl
                    omega
                · have : upd (upd H6 p (.lst (acc ++ [y]))) p (.lst acc0) = upd H6 p (.lst acc0) := by
                    funext a
                    by_cases z : a = p
                    · subst z; rw [upd_same, upd_same]
                    · rw [upd_ne z, upd_ne z, upd_ne z]
                  rw [this]; exact sx6
end
end Bk

namespace Bk
open L2 PyProof.Rows PySem.Spec PySem

section
variable {X : Cx} {G : Gl0} {W : WX}
theorem xG_imp {vs : List Nat} {g : SG} {v : V} {σ : Sl} {H : Hp} {Q Q' : Sl → Hp → Prop} (h : xG G vs g v σ H Q) (i : ∀ σ H, Q σ H → Q' σ H) : xG G vs g v σ H Q' := by
  obtain ⟨k, μ, ρ, d, ρ', l, r, e, q⟩ := h
  exact ⟨k, μ, ρ, d, ρ', l, r, e, fun σ' l k => i _ _ (q σ' l k)⟩
theorem comp2_core {m : Bool} {J : It} {vs vs2 : List Nat} {cur : Cur} {n : Nat} {g g2 : SG} {fi2 : SI} {t : ST} {f : SE} {Q : VK} {μ : List Addr} {st : Store} {ρ : Lc} {σ : Sl} {H : Hp} (S : Sim G μ st H) (l : Lo G μ ρ σ H) (cu : CurOk G μ H cur J)
    (p : Post G W (Rep G) μ H σ Q (noExn ((compC2 g vs2 fi2 g2 t f (wipeD ρ vs) cur n 0 st).bind fun ys st2 => mkB m ys st2))) :
    ∀ p, H p = none → ∃ V : Nat → Nat → Hp → Prop, (∃ m, V 0 m (upd H p (.lst []))) ∧ ∀ i m H, V i m H →
      (J.stop i H ∧ Q (.ref p) H) ∨ (J.go i H ∧ ∃ Nx : Hp → Prop, (∀ H', Nx H' → ∃ m', m' < m ∧ V (i + 1) m' H') ∧ ∀ x H', J.yld i H x H' → xG G vs g x (wipe σ vs) H' fun σ2 H2 => wipe σ2 vs = wipe σ vs ∧ xT G WF (fun _ st => .ok true st) σ2 H2 fun b H3 =>
        if b = true then xI G WF fi2 σ2 H3 fun J1 H4 => ∃ V1 : Nat → Nat → Hp → Prop, (∃ m, V1 0 m H4) ∧ ∀ j k H, V1 j k H →
          (J1.stop j H ∧ Nx H) ∨ (J1.go j H ∧ ∃ Nx1 : Hp → Prop, (∀ H', Nx1 H' → ∃ k', k' < k ∧ V1 (j + 1) k' H') ∧ ∀ x H', J1.yld j H x H' → xG G vs2 g2 x (wipe σ2 vs2) H' fun σ3 H5 => wipe σ3 vs2 = wipe σ2 vs2 ∧ xT G WF t σ3 H5 fun b H6 =>
            if b = true then xE G WF f σ3 H6 fun y H7 => ∃ acc, H7 p = some (.lst acc) ∧ acc.length < sizeLine ∧ Nx1 (upd H7 p (.lst (acc ++ [y]))) else Nx1 H6)
        else Nx H3) := by
  intro p0 hp0
  let V : Nat → Nat → Hp → Prop := fun i n H2 => ∃ μ2 st2 dacc acc, Step μ H μ2 H2 ∧ Sim (G.hide p0) μ2 st2 H2 ∧ H2 p0 = some (.lst acc) ∧ RepL (G.hide p0) μ2 H2 dacc acc ∧
    Post G W (Rep G) μ H σ Q (noExn ((compC2 g vs2 fi2 g2 t f (wipeD ρ vs) cur n i st2).bind fun ys st3 => mkB m (dacc ++ ys) st3))
  refine ⟨V, ⟨n, μ, st, [], [], step_new hp0, S.hide hp0 trivial, upd_same, .nil, p⟩, ?_⟩
  rintro i n2 H2 ⟨μ2, st2, dacc, acc, s2, S2, e2, r2, p2⟩
  have y : Yld (G.hide p0) μ2 H2 i J (cur i st2) := cu.run (p0 :: G.hid) μ2 st2 H2 i (fun a ha => (List.mem_cons.mp ha).elim (fun e => .inr (by rw [e]; exact hp0)) .inl) s2.x S2
  cases n2 with
  | zero => exact p2.elim
  | succ n2 =>
    unfold compC2 at p2
    cases e : cur i st2 with
    | none => rw [e] at p2; exact p2.elim
    | some o =>
      rw [e] at p2 y
      cases o with
      | none =>
        have p3 : Post G W (Rep G) μ H σ Q (noExn (mkB m (dacc ++ []) st2)) := p2
        rw [List.append_nil] at p3
        exact .inl ⟨y, made S hp0 s2 S2 e2 r2 p3⟩
      | some d =>
        obtain ⟨y1, y2⟩ := y
        cases eg : g d (wipeD ρ vs) with
        | none => simp only [eg] at p2; exact p2.elim
        | some ρ3 =>
          simp only [eg] at p2
          refine .inr ⟨y1, fun H' => ∃ m', m' < n2 + 1 ∧ V (i + 1) m' H', fun H' h => h, fun x H3 hy => ?_⟩
          obtain ⟨h3, r⟩ := y2 x H3 hy
          have s3 : Step μ2 H2 μ2 H3 ∧ Sim (G.hide p0) μ2 st2 H3 := by
            rcases h3 with rfl | ⟨T, u, n, rfl⟩
            · exact ⟨Step.refl _ _, S2⟩
            · exact ⟨step_new n, S2.new n⟩
          have np : p0 ∉ μ2 := (S2.hid p0 (List.mem_cons_self ..)).1
          have e3 : H3 p0 = some (.lst acc) := s3.1.keep _ _ np e2 trivial
          have lw : Lo (G.hide p0) μ2 (wipeD ρ vs) (wipe σ vs) H3 := Lo.cary (G := G) (cary_in (s2.trans s3.1) hp0) (l.wipe vs)
          refine ⟨p0 :: G.hid, μ2, wipeD ρ vs, d, ρ3, lw, r, eg, fun σ4 l4 k4 => ⟨by rw [k4.wipe, wipe_idem], p0 :: G.hid, μ2, ρ3, st2, s3.2, l4, ?_⟩⟩
          intro μ5 H5 b' s5 S5 eb
          subst eb
          refine ⟨p0 :: G.hid, μ5, ρ3, st2, S5, l4.step s5, ?_⟩
          have p3 : Post G W (Rep G) μ H σ Q (noExn (((fi2 ρ3 st2).bind fun w st2 => match w.lk with
            | some _ => .stuck
            | none => (compC g2 t f (wipeD ρ3 vs2) w.cur w.n 0 st2).bind fun ys st3 => (compC2 g vs2 fi2 g2 t f (wipeD ρ vs) cur n2 (i + 1) st3).bind fun zs st4 => .ok (ys ++ zs) st4).bind fun ys st3 => mkB m (dacc ++ ys) st3)) := p2
          cases ei : fi2 ρ3 st2 with
          | exn c st6 => rw [ei] at p3; exact p3.elim
          | stuck => rw [ei] at p3; exact p3.elim
          | ok w st6 =>
            rw [ei] at p3
            have p4 : Post G W (Rep G) μ H σ Q (noExn ((match w.lk with
              | some _ => .stuck
              | none => (compC g2 t f (wipeD ρ3 vs2) w.cur w.n 0 st6).bind fun ys st3 => (compC2 g vs2 fi2 g2 t f (wipeD ρ vs) cur n2 (i + 1) st3).bind fun zs st4 => .ok (ys ++ zs) st4 : R (List D)).bind fun ys st3 => mkB m (dacc ++ ys) st3)) := p3
            cases ew : w.lk with
            | some k => rw [ew] at p4; exact p4.elim
            | none =>
              rw [ew] at p4
              refine ⟨ew, fun μ6 H6 J1 s6 S6 c6 => ?_⟩
              have s16 : Step μ H μ6 H6 := ((s2.trans s3.1).trans s5).trans s6
              have np5 : p0 ∉ μ5 := (S5.hid p0 (List.mem_cons_self ..)).1
              have e6 : H6 p0 = some (.lst acc) := s6.keep _ _ np5 (s5.keep _ _ np e3 trivial) trivial
              have hb : ((compC g2 t f (wipeD ρ3 vs2) w.cur w.n 0 st6).bind fun ys st3 => (compC2 g vs2 fi2 g2 t f (wipeD ρ vs) cur n2 (i + 1) st3).bind fun zs st4 => R.ok (ys ++ zs) st4).bind (fun ys st3 => mkB m (dacc ++ ys) st3) = (compC g2 t f (wipeD ρ3 vs2) w.cur w.n 0 st6).bind fun ys st => (compC2 g vs2 fi2 g2 t f (wipeD ρ vs) cur n2 (i + 1) st).bind fun zs st4 => mkB m ((dacc ++ ys) ++ zs) st4 := by
                rw [bind_bind]
                congr 1
                funext ys st3
                rw [bind_bind]
                congr 1
                funext zs st4
                show mkB m (dacc ++ (ys ++ zs)) st4 = _
                rw [List.append_assoc]
              obtain ⟨V1, h1, h2⟩ := walk_core (W := W) (σ := σ) (Q := Q) (vs := vs2) (g := g2) (t := t) (f := f) (n := w.n) (K := fun ds st => (compC2 g vs2 fi2 g2 t f (wipeD ρ vs) cur n2 (i + 1) st).bind fun zs st4 => mkB m (ds ++ zs) st4)
                (Fin := fun H' => ∃ m', m' < n2 + 1 ∧ V (i + 1) m' H') hp0 s16 S6 (((l4.step s5).step s6).wipe vs2) e6 (RepL.step ((s3.1.trans s5).trans s6) _ _ r2) c6
                (fun ds st hq => by
                  cases ec : compC2 g vs2 fi2 g2 t f (wipeD ρ vs) cur n2 (i + 1) st with
                  | exn c st7 => simp only [ec] at hq; exact hq.elim
                  | stuck => simp only [ec] at hq; exact hq.elim
                  | ok zs st7 =>
                    simp only [ec] at hq
                    have hq2 : Post G W (Rep G) μ H σ Q (noExn (mkB m (ds ++ zs) st7)) := hq
                    unfold mkB at hq2
                    split at hq2
                    · rename_i hl
                      simp only [List.length_append] at hl
                      omega
                    · exact hq2.elim)
                (fun μ' st' ds xs H' sa _ Sa ea ra qa => ⟨n2, Nat.lt_succ_self _, μ', st', ds, xs, sa, Sa, ea, ra, qa⟩) (by rw [← hb]; exact p4)
              refine ⟨V1, h1, fun j k H hV => (h2 j k H hV).imp id fun ⟨hg, _, Nx, hn, hq⟩ => ⟨hg, Nx, hn, fun x H' hyy => xG_imp (hq x H' hyy) fun σ3 H5 ⟨kk, q⟩ => ⟨by rw [kk.wipe, wipe_idem], q⟩⟩⟩
theorem run_lc2 {m : Bool} {vs vs1 : List Nat} {fi fi1 : SI} {g g1 : SG} {t : ST} {f : SE} {σ : Sl} {H : Hp} {Q : VK} (wc : WCl X W) (q : tE G W (sComp2 m vs vs1 fi g fi1 g1 t f) σ H Q) :
    tLc2 (tI X G W fi) (xG G vs g) (xT G WF fun _ st => .ok true st) (xI G WF fi1) (xG G vs1 g1) (xT G WF t) (xE G WF f) vs vs1 σ H (fun v H1 => ∃ H2, UH X H1 H2 ∧ Q v H2) := by
    obtain ⟨μ, ρ, st, q⟩ := q
    refine ⟨μ, ρ, st, q.sim, q.lo, ?_⟩
    have p : Post G W (Rep G) μ H σ Q ((fi ρ st).bind fun w st1 => unlkR w.lk (noExn ((compC2 g vs1 fi1 g1 t f (wipeD ρ vs) w.cur w.n 0 st1).bind fun ys st2 => mkB m ys st2))) := q.post
    cases e : fi ρ st with
    | ok w st1 =>
      rw [e] at p
      exact fun μ1 H1 J s S cu lk => comp2_core S (q.lo.step s) cu (Post.unl s lk wc p)
    | exn c st1 => rw [e] at p; exact p
    | stuck => rw [e] at p; exact p
theorem t_comp2 {m : Bool} {elt tg iter tg1 iter1 : Expr} {ifs1 : List Expr} {scope : Scope} {own : List (Str × Nat)} {vs1 : List Nat} {pos : Pos} {fi fi1 : SI} {g g1 : SG} {t : ST} {f : SE} (wc : WCl X W) (hc : X.calm = true) (hN : X.N.Nodup) (hi : PI X tg iter (tI X G W fi)) (ok : BlkOk X.N X.env.scope scope own) (hv : ∀ i ∈ vs1, i ∈ own.map (·.2))
    (hg : ∀ (s : Shared) (H : Hp) (C : Addr) (cl : List (Str × Addr)) (fp : List Addr) h, PG (X.blk s H scope (compEnvC scope cl C X.env) fp) tg (tGt (G.wh h) (own.map (·.2)) g))
    (hi1 : ∀ (s : Shared) (H : Hp) (C : Addr) (cl : List (Str × Addr)) (fp : List Addr) h, PI (X.blk s H scope (compEnvC scope cl C X.env) fp) tg1 iter1 (tI (X.blk s H scope (compEnvC scope cl C X.env) fp) (G.wh h) WF fi1))
    (hg1 : ∀ (s : Shared) (H : Hp) (C : Addr) (cl : List (Str × Addr)) (fp : List Addr) h, PG (X.blk s H scope (compEnvC scope cl C X.env) fp) tg1 (tGt (G.wh h) vs1 g1))
    (ht : ∀ (s : Shared) (H : Hp) (C : Addr) (cl : List (Str × Addr)) (fp : List Addr) h, PTs (X.blk s H scope (compEnvC scope cl C X.env) fp) ifs1 (tT (G.wh h) WF t))
    (he : ∀ (s : Shared) (H : Hp) (C : Addr) (cl : List (Str × Addr)) (fp : List Addr) h, PE (X.blk s H scope (compEnvC scope cl C X.env) fp) elt (tE (G.wh h) WF f)) (hs : ∀ x, foldedSetIterable iter X.env x = pure x) (hs1 : ∀ env x, foldedSetIterable iter1 env x = pure x) :
    PE X (.ListComp elt [⟨tg, iter, [], 0⟩, ⟨tg1, iter1, ifs1, 0⟩] scope pos) (tE G W (sComp2 m (own.map (·.2)) vs1 fi g fi1 g1 t f)) :=
  PEimp (pe_unl (pe_lc2 hc hN hi ok hv (fun s H C cl fp => pg_x (hg s H C cl fp)) (fun s H C cl fp => pts_x fun _ => pts_yes) (fun s H C cl fp => pi_x (hi1 s H C cl fp)) (fun s H C cl fp => pg_x (hg1 s H C cl fp)) (fun s H C cl fp => pts_x (ht s H C cl fp)) (fun s H C cl fp => pe_x (he s H C cl fp)) hs hs1)) fun σ H Q ⟨μ, ρ, st, q⟩ => by
    refine ⟨μ, ρ, st, q.sim, q.lo, ?_⟩
    have p : Post G W (Rep G) μ H σ Q ((fi ρ st).bind fun w st1 => unlkR w.lk (noExn ((compC2 g vs1 fi1 g1 t f (wipeD ρ (own.map (·.2))) w.cur w.n 0 st1).bind fun ys st2 => mkB m ys st2))) := q.post
    cases e : fi ρ st with
    | ok w st1 =>
      rw [e] at p
      exact fun μ1 H1 J s S cu lk => comp2_core S (q.lo.step s) cu (Post.unl s lk wc p)
    | exn c st1 => rw [e] at p; exact p
    | stuck => rw [e] at p; exact p
end
end Bk

namespace Bk
open L2 PyProof.Rows PySem.Spec PySem GenW

/-! ## Generator expressions: the generator's side -/
abbrev gcode (elt tg iter : Expr) (ifs : List Expr) (scope : Scope) (pos : Pos) (it : Addr) (env : Env) : Code := .compLoop (.GeneratorExp elt [⟨tg, iter, ifs, 0⟩] scope pos) 0 (.ref it) .none env
/-- what is handed out, and what is asked of him who wakes it again -/
def GY' (X : Cx) (fp : List Addr) (Dem : V → Hp → (Hp → Prop) → Prop) : Protocol := fun _ _ v s kap => ∃ (y : V) (σ : Sl) (H : Hp) (pins ip : List (Addr × Obj)) (Nx : Hp → Prop),
  RelV y v ∧ Inv X (pins ++ ip) σ H s ∧ (∀ p ∈ pins, p.1 ∉ fp) ∧ Dem y H Nx ∧ ∀ (pins' : List (Addr × Obj)) (s' : Shared) (H' : Hp), (∀ p ∈ pins', p.1 ∉ fp) → Inv X (pins' ++ ip) σ H' s' → Nx H' → kap (.send .none) s'
def GR' (X : Cx) (EndH : Hp → Prop) : GenEnd := fun n s₀ r s => ((r = .ok (.ret .none) ∨ r = .ok .next) ∧ (fun (_ : Nat) (_ s₁ : Shared) => ∃ (pins : List (Addr × Obj)) (σ : Sl) (H : Hp), Inv X pins σ H s₁ ∧ EndH H) n s₀ s) ∨ ∃ e, r = .error e ∧ (fun (_ : Value) (_ : Shared) => False) e s
structure GCtx (X : Cx) (fp : List Addr) : Prop where
  xe : X.xe = fun _ _ => False
  calm : X.calm = true
  co : X.env.scope.isCoroutine = false
  ex : X.ex = fp
  pn : ∀ p ∈ X.pn, p.1 ∉ fp
theorem GCtx.fp {X : Cx} {fp : List Addr} (C : GCtx X fp) {pins : List (Addr × Obj)} {σ : Sl} {H : Hp} {s : Shared} (I : L2.Inv X pins σ H s) (hp : ∀ p ∈ pins, p.1 ∉ fp) (hn : ∀ b ∈ fp, H b = none) : ∀ b ∈ fp, FpOk X pins H b := fun b hb => by
  have hb' : b ∈ X.ex := by rw [C.ex]; exact hb
  refine ⟨hn b hb, (I.ok.exf b hb').1, I.ok.exfs b hb', .inl hb', (I.ok.exf b hb').2, fun p h z => ?_⟩
  rcases List.mem_append.mp h with h | h
  · exact C.pn p h (by rw [z]; exact hb)
  · exact hp p h (by rw [z]; exact hb)
theorem seg_F {M : Model} {A : Around} {R : GenEnd} {Y : Protocol} {n : Nat} {s₀ : Shared} {c : Code} {fs : List Frame} {s : Shared} {α β : Type} {m : Sem α} {K : α → Sem β} {K' : β → Sem PySem.Fin} {H' : Value → Sem PySem.Fin} {gd lv} {Q : α → Shared → Prop}
    (h : wpAny M (A.over c fs) m Q (fun _ _ => False) s) (k : ∀ a s', Q a s' → Seg M A R Y n s₀ c ((K a).wrap K' H' gd lv) fs s') : Seg M A R Y n s₀ c ((m >>= K).wrap K' H' gd lv) fs s :=
  seg_bind_wrap (wpAny_mono h k fun _ _ z => z.elim)
theorem gen_loop {X : Cx} {A : Around} {tg elt iter : Expr} {ifs : List Expr} {scope : Scope} {pos : Pos} {it : Addr} {fp : List Addr} {tn : Nat → Heap → Prop} {J : It} {g : TG} {tt : TT} {te : TE} {σ0 : Sl} {Dem : V → Hp → (Hp → Prop) → Prop} {EndH : Hp → Prop} {V : Nat → Nat → Hp → Prop}
    (C : GCtx X fp) (hA : A.over (gcode elt tg iter ifs scope pos it X.env) [] = X.A) (T : Turn X.prog X.w X.K tg J fp it tn) (hg : PG X tg g) (ht : PTs X ifs tt) (he : PE X elt te)
    (turn : ∀ i m H, V i m H → (J.stop i H ∧ EndH H) ∨ (J.go i H ∧ 0 < m ∧ ∃ Nx : Hp → Prop, (∀ H', Nx H' → ∃ m', m' < m ∧ V (i + 1) m' H') ∧ ∀ x H', J.yld i H x H' → g x σ0 H' fun σ2 H2 => (∀ (j : Nat) v, σ0[j]? = some (some v) → σ2[j]? = some (some v)) ∧ σ0.length = σ2.length ∧
      tt σ2 H2 fun b H3 => if b = true then te σ2 H3 fun y H4 => Dem y H4 Nx else Nx H3)) :
    ∀ (m k i : Nat) (s₀ s : Shared) (H : Hp) (pins : List (Addr × Obj)), m ≤ k → V i m H → Inv X pins σ0 H s → (∀ p ∈ pins, p.1 ∉ fp) → tn i s.heap → (∀ b ∈ fp, H b = none) →
      Seg (model X.prog X.w) A (GR' X EndH) (GY' X fp Dem) k s₀ (gcode elt tg iter ifs scope pos it X.env) ((model X.prog X.w).den (gcode elt tg iter ifs scope pos it X.env)) [] s := by
  intro m
  induction m using Nat.strongRecOn with
  | ind m ih =>
    intro k i s₀ s H pins hmk hV I hpf hst hn
    show Seg _ A _ _ _ s₀ _ ((compTurn (.GeneratorExp elt [⟨tg, iter, ifs, 0⟩] scope pos) 0 (.ref it) .none X.env).onRaise (leaving X.env)) [] s
    rw [compTurn_gen, Sem.onRaise_eq_wrap]
    refine seg_bind_wrap (wpAny_standAt ?_)
    rcases turn i m H hV with ⟨stop, fin⟩ | ⟨go, hm0, Nx, hNx, step⟩
    · have td := T.done X rfl rfl rfl C.calm i pins s σ0 H (fun _ _ => False) I (C.fp I hpf hn) hst stop
      rw [← hA] at td
      refine seg_F td fun r s6 ⟨hr, I6⟩ => ?_
      subst hr
      exact seg_end (.ok .next) (.inl ⟨.inr rfl, pins, σ0, H, I6, fin⟩)
    · have ti := T.item X rfl rfl rfl C.calm i pins s σ0 H (fun _ _ => False) I (C.fp I hpf hn) hst go
      rw [← hA] at ti
      refine seg_F ti fun r s6 ⟨u, hr, h6⟩ => ?_
      subst hr
      refine seg_F h6 fun _ s7 ⟨x, H7, I7, r7, y7, st7, n7⟩ => ?_
      have I7' := I7.pinned (C.fp I7 hpf n7) (T.obj _ _ st7)
      have h8 := hg.run _ s7 _ H7 x u _ I7' r7 (step x H7 y7)
      rw [C.xe] at h8
      rw [← hA] at h8
      refine seg_F h8 fun _ s8 ⟨σ8, H8, I8, hw8, hl8, q8⟩ => ?_
      have h9 := ht.run _ s8 σ8 H8 _ I8 q8
      rw [C.xe] at h9
      rw [← hA] at h9
      refine seg_F h9 fun b s9 ⟨H9, I9, q9⟩ => ?_
      have fin : ∀ {s' : Shared} {H' : Hp} {pins' : List (Addr × Obj)} {k' : Nat} {s₁ : Shared}, (∀ p ∈ pins', p.1 ∉ fp) → m ≤ k' + 1 → Inv X (pins' ++ pinsAt fp s7.heap) σ8 H' s' → Nx H' →
          Seg (model X.prog X.w) A (GR' X EndH) (GY' X fp Dem) k' s₁ (gcode elt tg iter ifs scope pos it X.env) ((model X.prog X.w).den (gcode elt tg iter ifs scope pos it X.env)) [] s' := fun {s' H' pins' k' s₁} hp' hk' I' nx => by
        obtain ⟨m', hm, w'⟩ := hNx H' nx
        have pin' : ∀ b ∈ fp, ∀ o, s7.heap.get? b = some o → s'.heap.get? b = some o ∧ H' b = none := fun b hb o e =>
          let z := I'.pin (b, o) (List.mem_append_right _ (List.mem_append_right _ (mem_pinsAt hb e)))
          ⟨z.1, z.2.1⟩
        refine ih m' hm k' (i + 1) s₁ s' H' pins' (by omega) w' ((I'.unpinned (pins := pins')).weak hl8 hw8) hp' (T.keep _ _ _ st7 fun b hb o e => (pin' b hb o e).1) fun b hb => ?_
        obtain ⟨o, e, _⟩ := T.obj _ _ st7 b hb
        exact (pin' b hb o e).2
      cases b with
      | false =>
        simp only [Bool.false_eq_true, if_false] at q9 ⊢
        exact seg_again rfl (fin hpf (by omega) I9 q9)
      | true =>
        simp only [if_true] at q9 ⊢
        have hy : ∀ v, yieldOut X.env v = yieldValue v := fun v => by simp only [yieldOut, C.co, Bool.false_eq_true, if_false]
        simp only [hy]
        rw [Sem.bind_eq_wrap', Sem.bind_eq_wrap', Sem.wrap_wrap, Sem.wrap_wrap]
        have h10 := he.run _ s9 σ8 H9 _ I9 q9
        rw [C.xe] at h10
        rw [← hA] at h10
        refine seg_wrap (wpAny_mono h10 (fun v s10 ⟨y, H10, I10, r10, dm⟩ => ?_) fun _ _ z => z.elim)
        cases k with
        | zero => omega
        | succ k =>
          refine seg_at (seg_yield rfl rfl rfl ⟨y, σ8, H10, pins, pinsAt fp s7.heap, Nx, r10, I10, hpf, dm, fun pins' s' H' hp' I' nx => ?_⟩)
          exact seg_again rfl (fin hp' (by omega) I' nx)
theorem inv_gens {X : Cx} {pins : List (Addr × Obj)} {σ : Sl} {H : Hp} {s : Shared} (I : L2.Inv X pins σ H s) {g : Array GenState} {t : Nat} (hb : AllBare g) : L2.Inv X pins σ H { s with gens := g, toks := t } :=
  ⟨I.ok, I.os, hb, I.base, I.loc, I.cell, I.free, I.freeC, I.pin, I.hok, I.len⟩
/-- the generator, ready to be woken -/
def Asleep (X : Cx) (fp : List Addr) (Dem : V → Hp → (Hp → Prop) → Prop) (EndH : Hp → Prop) (A : Around) (a : Addr) (g k : Nat) (s : Shared) : Prop :=
  s.heap.IsGen a g ∧ s.heap.NoLimit ∧ ∃ gs, s.gens[g]? = some gs ∧ gs.Goes (model X.prog X.w) A (GR' X EndH) (GY' X fp Dem) k (.send .none) (s.setGen g .running)
/-- one item of it -/
theorem gen_next {X : Cx} {fp : List Addr} {Dem : V → Hp → (Hp → Prop) → Prop} {EndH : Hp → Prop} {A : Around} {a : Addr} {g k : Nat} {s : Shared} {E : Value → Shared → Prop} {Q : Option Value → Shared → Prop} (hh : A.handled = none) (hd : A.depth < recursionLimit) (hpn : ∃ o, (a, o) ∈ X.pn ∧ ∀ h : Heap, h.get? a = some o → h.IsGen a g)
    (h : Asleep X fp Dem EndH A.in1 a g k s)
    (hY : ∀ v s1 y σ H (pins ip : List (Addr × Obj)) (Nx : Hp → Prop), RelV y v → Inv X (pins ++ ip) σ H s1 → (∀ p ∈ pins, p.1 ∉ fp) → Dem y H Nx →
      (∀ (pins' : List (Addr × Obj)) (s' : Shared) (H' : Hp), (∀ p ∈ pins', p.1 ∉ fp) → Inv X (pins' ++ ip) σ H' s' → s'.gens.size = s1.gens.size → s'.gens[g]? = s1.gens[g]? → Nx H' → ∃ m, m < k ∧ Asleep X fp Dem EndH A.in1 a g m s') → Q (some v) s1)
    (hE : ∀ s1 (pins : List (Addr × Obj)) (σ : Sl) (H : Hp), Inv X pins σ H s1 → EndH H → Q none s1) : wpAny (model X.prog X.w) A (pyNext (.ref a)) Q E s := by
  obtain ⟨h1, h2, gs, h3, h4⟩ := h
  have hgl : g < s.gens.size := (Array.getElem?_eq_some_iff.mp h3).1
  refine wpAny_gsz (n := g + 1) hgl (next_genG hh h2 hd h1 h3 h4 (fun v s1 gs' hb hv => ?_) (fun s1 hp h' hk => ?_) fun e s1 he => he.elim)
  · intro hsz
    obtain ⟨y, σ, H, pins, ip, Nx, r, I, hp, dm, re⟩ := hv
    have hbs : AllBare (s1.setGen g gs').gens := allBare_setGen I.bare hb
    have I2 : L2.Inv X (pins ++ ip) σ H (s1.setGen g gs') := inv_gens (t := s1.toks) I hbs
    refine hY v _ y σ H pins ip Nx r I2 hp dm fun pins' s' H' hp' I' hs' hg' nx => ?_
    cases k with
    | zero => exact (re pins' s' H' hp' I' nx).elim
    | succ k =>
      refine ⟨k, Nat.lt_succ_self k, ?_, I'.nolimit, gs', ?_, ?_⟩
      · obtain ⟨o, ho, hi⟩ := hpn
        exact hi _ (I'.pin (a, o) (List.mem_append_left _ ho)).1
      · rw [hg']
        exact setGen_at (by
          have q : (s1.setGen g gs').gens.size = s1.gens.size := setGen_size _ _ _
          have hsz' : g + 1 ≤ (s1.setGen g gs').gens.size := hsz
          omega)
      · exact re pins' _ H' hp' (inv_gens (t := s'.toks) I' (allBare_setGen I'.bare rfl)) nx
  · intro hsz
    obtain ⟨pins, σ, H, I, hq⟩ := hp
    have I2 : L2.Inv X pins σ H { s1.setGen g .finished with heap := h' } := inv_gens (t := s1.toks) (I.kept (t' := s1.toks) hk) (allBare_setGen I.bare rfl)
    exact hE _ pins σ H I2 hq
end Bk

namespace Bk
open L2 PyProof.Rows PySem.Spec PySem GenW

/-! ## any, all -/
def DemB (stop : Bool) (QF : Hp → Prop) : V → Hp → (Hp → Prop) → Prop := fun y H Nx => ∃ c, y = .bl c ∧ (c = stop → QF H) ∧ (c ≠ stop → Nx H)
section
variable {X : Cx} {fp : List Addr} {QF EndH : Hp → Prop} {A : Around} {a : Addr} {g : Nat} {R : Result → Shared → Prop}
theorem any_go (hh : A.handled = none) (hd : A.depth < recursionLimit) (hpn : ∃ o, (a, o) ∈ X.pn ∧ ∀ h : Heap, h.get? a = some o → h.IsGen a g)
    (hQ : ∀ s' (pins : List (Addr × Obj)) (σ : Sl) (H : Hp), Inv X pins σ H s' → QF H → R (.ok (.ret (.bool true))) s') (hE : ∀ s' (pins : List (Addr × Obj)) (σ : Sl) (H : Hp), Inv X pins σ H s' → EndH H → R (.ok (.ret (.bool false))) s') :
    ∀ (k : Nat) (s : Shared), Asleep X fp (DemB true QF) EndH A.in1.in1 a g k s → codeAny (model X.prog X.w) A (.builtin "any.loop" ⟨[.ref a], []⟩) R s := by
  intro k
  induction k using Nat.strongRecOn with
  | ind k ih =>
    intro s h
    refine codeAny_builtin F.entry_any_loop ?_
    rw [Around.under_plainId F.plain_any_loop _]
    show wpAny _ A.in1 (pyNext (.ref a) >>= _) _ _ s
    refine wpAny_bind (gen_next hh hd hpn h (fun v s1 y σ H pins ip Nx r I hp dm re => ?_) fun s1 pins σ H I q => ?_)
    · obtain ⟨c, rfl, d1, d2⟩ := dm
      obtain rfl : v = .bool c := r
      refine wpAny_bind (wpAny_holding (wpAny_truthy_bool ?_))
      refine wpAny_bind (wpAny_letGo ?_)
      cases c with
      | true =>
        simp only [if_true]
        exact wpAny_bind (wpAny_rule (wpAny_pure (hQ s1 _ σ H I (d1 rfl))))
      | false =>
        simp only [Bool.false_eq_true, if_false]
        obtain ⟨m, hm, hs⟩ := re pins s1 H hp I rfl rfl (d2 (by decide))
        exact wpAny_pure ⟨plainId_quiet F.plain_any_loop _, ih m hm s1 hs⟩
    · exact wpAny_bind (wpAny_rule (wpAny_pure (hE s1 pins σ H I q)))
theorem all_go (hh : A.handled = none) (hd : A.depth < recursionLimit) (hpn : ∃ o, (a, o) ∈ X.pn ∧ ∀ h : Heap, h.get? a = some o → h.IsGen a g)
    (hQ : ∀ s' (pins : List (Addr × Obj)) (σ : Sl) (H : Hp), Inv X pins σ H s' → QF H → R (.ok (.ret (.bool false))) s') (hE : ∀ s' (pins : List (Addr × Obj)) (σ : Sl) (H : Hp), Inv X pins σ H s' → EndH H → R (.ok (.ret (.bool true))) s') :
    ∀ (k : Nat) (s : Shared), Asleep X fp (DemB false QF) EndH A.in1.in1 a g k s → codeAny (model X.prog X.w) A (.builtin "all.loop" ⟨[.ref a], []⟩) R s := by
  intro k
  induction k using Nat.strongRecOn with
  | ind k ih =>
    intro s h
    refine codeAny_builtin F.entry_all_loop ?_
    rw [Around.under_plainId F.plain_all_loop _]
    show wpAny _ A.in1 (pyNext (.ref a) >>= _) _ _ s
    refine wpAny_bind (gen_next hh hd hpn h (fun v s1 y σ H pins ip Nx r I hp dm re => ?_) fun s1 pins σ H I q => ?_)
    · obtain ⟨c, rfl, d1, d2⟩ := dm
      obtain rfl : v = .bool c := r
      refine wpAny_bind (wpAny_holding (wpAny_truthy_bool ?_))
      refine wpAny_bind (wpAny_letGo ?_)
      cases c with
      | false =>
        first | simp only [Bool.not_false, if_true] | simp only [Bool.false_eq_true, if_false]
        exact wpAny_bind (wpAny_rule (wpAny_pure (hQ s1 _ σ H I (d1 rfl))))
      | true =>
        first | simp only [Bool.not_true, Bool.false_eq_true, if_false] | simp only [if_true]
        obtain ⟨m, hm, hs⟩ := re pins s1 H hp I rfl rfl (d2 (by decide))
        exact wpAny_pure ⟨plainId_quiet F.plain_all_loop _, ih m hm s1 hs⟩
    · exact wpAny_bind (wpAny_rule (wpAny_pure (hE s1 pins σ H I q)))
end
end Bk

namespace Bk
open L2 PyProof.Rows PySem.Spec PySem GenW

/-! ## The generator's own context -/
abbrev gcx (X : Cx) (A : Around) (s : Shared) (H : Hp) (scope : Scope) (genv : Env) (fp : List Addr) (a : Addr) (o : Obj) : Cx :=
  { X with A := A, s_0 := s, H_0 := H, env := genv, outer := X.stack, stack := genv :: X.stack, ex := fp, fn := fun x => scope.names.lookup x == some .cell, pn := [(a, o)], xe := fun _ _ => False }
section
variable {X : Cx} {pins : List (Addr × Obj)} {σ : Sl} {H : Hp} {s : Shared}
theorem gen_start {Ag : Around} {scope : Scope} {own : List (Str × Nat)} {fp : List Addr} {code it : Value} {h' : Heap} {g' : Array GenState} {t' : Nat} {fo go : Obj} (I : L2.Inv X pins σ H s) (ok : BlkOk X.N X.env.scope scope own) (hN : X.N.Nodup) (hcell : ∀ y ∈ scope.names, y.2 ≠ .cell) (h0 : (".0" : Str) ∉ X.N)
    (hfp : ∀ b ∈ fp, FpOk X pins H b ∧ b < s.heap.objs.size) (hns : h'.Ns s.heap.objs.size (fun y => if y = ".0" then some it else none)) (sb : Heap.SameBut s.heap.objs.size (s.heap.push fo) h') (hg : AllBare g') (hgo : ∀ v, go.data ≠ .cell v) (hfr : go.isFreed = false)
    (hA : Ag.handled = none) (hAf : Ag.frames = some (genEnv scope (cloFrom X.env.cells scope.names []) s.heap.objs.size code builtinsNs X.env :: X.stack)) :
    L2.Inv (gcx X Ag s H scope (genEnv scope (cloFrom X.env.cells scope.names []) s.heap.objs.size code builtinsNs X.env) fp h'.objs.size go) [] (wipe σ (own.map (·.2))) H { s with heap := h'.push go, gens := g', toks := t' } := by
  have hfree : ∀ y ∈ scope.names, y.2 = .free → ∃ c, X.env.cells.lookup y.1 = some c := fun y hy e => (ok.free y hy e).elim (fun k => I.ok.has _ (.inl k)) fun k => I.ok.has _ (.inr k)
  have hz : h'.objs.size = s.heap.objs.size + 1 := by rw [sb.1, Heap.size_push]
  have kp : ∀ b o, s.heap.get? b = some o → (h'.push go).get? b = some o := fun b o e => Heap.get?_push_of_some _ ((sb.2 b (Nat.ne_of_lt (Heap.lt_size e))).trans (Heap.get?_push_of_some _ e))
  have inClo : ∀ {y c}, (cloFrom X.env.cells scope.names []).lookup y = some c → (y, NameKind.free) ∈ scope.names ∧ X.env.cells.lookup y = some c := fun {y c} e => by
    rcases cloFrom_mem (PySem.mem_of_lookup e) with hm | ⟨h1, rfl⟩
    · cases hm
    · obtain ⟨c, hc⟩ := hfree _ h1 rfl
      rw [hc]; exact ⟨h1, rfl⟩
  have lt : ∀ {y c}, X.env.cells.lookup y = some c → c < s.heap.objs.size := fun {y c} e => let ⟨_, z⟩ := I.cell _ _ e; z.lt
  have toClo : ∀ {y}, scope.names.lookup y = some .free → ∃ c, (cloFrom X.env.cells scope.names []).lookup y = some c ∧ X.env.cells.lookup y = some c := fun {y} hl => by
    obtain ⟨c', e'⟩ := L2.mem_lookup (cloFrom_has (cells := X.env.cells) (acc := []) (PySem.mem_of_lookup hl))
    exact ⟨c', e', (inClo e').2⟩
  have nocell : ∀ {y}, scope.names.lookup y ≠ some .cell := fun {y} e => hcell _ (PySem.mem_of_lookup e) rfl
  have fresh : H h'.objs.size = none := I.hok.fresh (by rw [hz]; exact Nat.le_succ _)
  have fa := I.fpOk (b := h'.objs.size) (by rw [hz]; exact Nat.le_succ _) fresh
  have okB : (gcx X Ag s H scope (genEnv scope (cloFrom X.env.cells scope.names []) s.heap.objs.size code builtinsNs X.env) fp h'.objs.size go).Ok :=
    { mod := I.ok.mod, kind := ok.kind, glob := I.ok.glob, blt := rfl, above := Nat.le_refl _
      inj := fun x y c e1 e2 => I.ok.inj x y c (inClo e1).2 (inClo e2).2
      has := fun x hx => hx.elim (fun e => absurd e nocell) fun e => let ⟨c, h1, _⟩ := toClo e; ⟨c, h1⟩
      cab := fun x c e _ => absurd (beq_iff_eq.mp e) nocell
      hd := fun _ => hA, frames := hAf, stk := .inr ⟨rfl, rfl⟩
      exf := fun b hb => ⟨Nat.ne_of_lt (hfp b hb).2, fun x c e => (hfp b hb).1.2.2.2.2.1 x c (inClo e).2⟩
      bs := I.bs, bsz := Nat.le_trans I.ok.bsz I.sz
      noex := fun b o e hb => (hfp b hb).1.2.2.2.1.elim (I.ok.noex b o e) fun z => absurd (Nat.lt_of_lt_of_le (Heap.lt_size e) (Nat.le_trans I.ok.bsz z)) (Nat.lt_irrefl _)
      exfs := fun b hb z => (List.mem_cons.mp (I.stkSub b z)).elim (hfp b hb).1.2.1 (hfp b hb).1.2.2.1
      funs := I.stack, frf := I.stkFree }
  refine ⟨okB, rfl, hg, Un.kept kp, ⟨_, hns.keeps fun b o e => Heap.get?_push_of_some _ e, fun i y av e1 e2 e3 => ?_⟩, fun y c e => ?_, I.hok.fresh (Nat.le_refl _), fun y c e => I.freeC y c (inClo e).2, fun p hp => ?_, I.hok.kept kp, by rw [wipe_length]; exact I.len⟩
  · obtain ⟨e2, hne⟩ := wipe_some e2
    have e3 : Vis scope y := e3
    have no : scope.names.lookup y ≠ some .local := fun hl => by
      rcases ok.own _ (PySem.mem_of_lookup hl) (.inl rfl) with e' | e'
      · obtain ⟨p, hp, hpy⟩ := List.mem_map.mp e'
        have e4 := ok.ix p hp
        rw [show p.1 = y from hpy] at e4
        exact hne (List.mem_map.mpr ⟨p, hp, nodup_ix hN e4 e1⟩)
      · exact e' (List.mem_of_getElem? e1)
    have hf : scope.names.lookup y = some .free := e3.elim (fun z => absurd z no) fun z => z.elim (fun z => absurd z nocell) id
    obtain ⟨m, hn, hl⟩ := I.loc
    have hv : Vis X.env.scope y := (ok.free _ (PySem.mem_of_lookup hf) rfl).elim (fun k => .inr (.inl k)) fun k => .inr (.inr k)
    obtain ⟨w, r, q⟩ := hl i y av e1 e2 hv
    obtain ⟨c, h1, h2⟩ := toClo hf
    refine ⟨w, r, .inr ⟨.inr hf, c, h1, ?_⟩⟩
    rcases q with ⟨k, _⟩ | ⟨_, c', e', z⟩
    · have k : X.env.scope.names.lookup y = some .local := k
      rcases ok.free _ (PySem.mem_of_lookup hf) rfl with k' | k' <;> rw [show X.env.scope.names.lookup y = _ from k'] at k <;> cases k
    · rw [h2] at e'; cases e'
      exact z.keeps kp
  · obtain ⟨w, z⟩ := I.cell y c (inClo e).2
    exact ⟨w, z.keeps kp⟩
  · rw [show p = (h'.objs.size, go) from by simpa using hp]
    refine ⟨Heap.get?_push_size _ hfr, fresh, Nat.ne_of_gt (by show s.heap.objs.size < h'.objs.size; rw [hz]; exact Nat.lt_succ_self _), fun hm => (List.mem_cons.mp (I.stkSub _ hm)).elim fa.2.1 fa.2.2.1, hgo⟩
end
end Bk

namespace Bk
open L2 PyProof.Rows PySem.Spec PySem GenW

/-! ## The making of a generator -/
/-- the table at P, with or without one more code object -/
def TabX (P : Addr) (pos : Pos) (H H' : Hp) : Prop := H' = H ∨ ∃ (ps : Array Value) (c : Addr), H P = some (.tbl ps) ∧ H' = upd H P (.tbl (ps ++ #[rawInt pos.line, rawInt pos.col, .ref c])) ∧ TriplesOk (ps ++ #[rawInt pos.line, rawInt pos.col, .ref c]).toList
structure GReady (X : Cx) (pins : List (Addr × Obj)) (σ : Sl) (H0 H : Hp) (scope : Scope) (own : List (Str × Nat)) (elt tg iter : Expr) (ifs : List Expr) (pos : Pos) (J : It) (a g : Nat) (s5 : Shared) : Prop where
  ex : ∃ (s4 : Shared) (fp : List Addr) (it : Addr) (tn : Nat → Heap → Prop) (genv : Env) (go : Obj), L2.Inv X pins σ H0 s4 ∧ (∀ b ∈ fp, (FpOk X pins H0 b ∧ b < s4.heap.objs.size) ∧ H b = none) ∧ Turn X.prog X.w X.K tg J fp it tn ∧ tn 0 s5.heap ∧
    genv.scope = scope ∧ (∀ h : Heap, h.get? a = some go → h.IsGen a g) ∧ s5.gens[g]? = some (.fresh (.compStart (.GeneratorExp elt [⟨tg, iter, ifs, 0⟩] scope pos) 0 (.ref it) .none genv)) ∧ a ∉ fp ∧
    ∀ Ag : Around, Ag.handled = none → Ag.frames = some (genv :: X.stack) → L2.Inv (gcx X Ag s4 H0 scope genv fp a go) [] (wipe σ (own.map (·.2))) H s5
section
variable {X : Cx} {pins : List (Addr × Obj)} {σ : Sl} {H : Hp} {s : Shared}
theorem gen_make {c P : Addr} {elt tg iter : Expr} {ifs : List Expr} {scope : Scope} {own : List (Str × Nat)} {pos : Pos} {wi : TI} {k : Nat} {R : It → Hp → Prop} {Q' : Value → Shared → Prop}
    (hr : Room k X.A) (TB : GxR.TabB X.base X.mg c P) (hcode : X.env.code = .ref c) (ok : BlkOk X.N X.env.scope scope own) (hN : X.N.Nodup) (hco : scope.isCoroutine = false) (hcell : ∀ y ∈ scope.names, y.2 ≠ .cell) (hdot : scope.names.lookup (".0" : Str) = some NameKind.local) (h0 : (".0" : Str) ∉ X.N)
    (hi : PI X tg iter wi) (hs : ∀ v, genFold iter X.env v = pure v) (I : L2.Inv X pins σ H s) (h : wi σ H fun J H1 => (∃ ps : Array Value, H1 P = some (.tbl ps) ∧ TriplesOk ps.toList) ∧ R J H1)
    (hQ : ∀ J H1 H2 a g s5, R J H1 → TabX P pos H1 H2 → GReady X pins σ H2 H2 scope own elt tg iter ifs pos J a g s5 → Q' (.ref a) s5) :
    wpAny (model X.prog X.w) X.A (eval (.GeneratorExp elt [⟨tg, iter, ifs, 0⟩] scope pos) X.env) Q' X.xe s := by
  have hfree : ∀ y ∈ scope.names, y.2 = .free → ∃ c, X.env.cells.lookup y.1 = some c := fun y hy e => (ok.free y hy e).elim (fun k => I.ok.has _ (.inl k)) fun k => I.ok.has _ (.inr k)
  refine wpAny_GeneratorExp_make hco (closure_ok hfree) hcell hdot ok.kind (by have := hr.dp; omega) ?_ hs
  refine thn (hi.run pins s σ H _ I h) fun xv s1 hx => thn hx fun itv s2 h2 => ?_
  obtain ⟨it, fp, tn, J, H1, rfl, I2, T, st2, f2, ⟨ps, hP, htr⟩, q⟩ := h2
  have hPs : s2.heap.get? P = some { cls := .none, data := .fields ps } := I2.hok P _ hP
  have cd : PySem.W.CodeHd s2.heap c P := TB.code.keeps fun b u e => I2.bk b u e
  refine ⟨I2.nolimit, ?_⟩
  have sz2 : ∀ b ∈ fp, b < s2.heap.objs.size := fun b hb => let ⟨o, e, _⟩ := T.obj _ _ st2 b hb; Heap.lt_size e
  have cont : ∀ (code : Value) (s3 : Shared) (H2 : Hp), L2.Inv X pins σ H2 s3 → TabX P pos H1 H2 → (∀ b ∈ fp, H2 b = none) → (∀ b ∈ fp, ∀ o, s2.heap.get? b = some o → s3.heap.get? b = some o) →
      wpAny (model X.prog X.w) X.A (builtinsFor X.env.globals X.env.builtins) (fun bi s₄ => ∀ h', h'.Ns s₄.heap.objs.size (fun y => if y = ".0" then some (.ref it) else none) → Heap.SameBut s₄.heap.objs.size (s₄.heap.push { cls := .type "frame", data := .dict #[] }) h' →
        Q' (.ref h'.objs.size) { s₄ with
          gens := s₄.gens.push (.fresh (.compStart (.GeneratorExp elt [⟨tg, iter, ifs, 0⟩] scope pos) 0 (.ref it) .none (genEnv scope (cloFrom X.env.cells scope.names []) s₄.heap.objs.size code bi X.env))),
          toks := s₄.toks + 1 + 1 + 1,
          heap := h'.push { cls := .type "generator", data := .fields #[.int s₄.gens.size 0, .str "<genexpr>" (s₄.toks + 1), .str (X.env.qual ++ "<genexpr>") (s₄.toks + 1 + 1)] } }) X.xe s3 := by
    intro code s3 H2 I3 hT nfp hk
    obtain ⟨bm, ob, e1, e2, e3, e4, e5, e6, e7, e8⟩ := TB.bm
    refine wpAny_builtinsFor (m := X.mg) (by rw [I3.ok.glob]; exact I3.mod.glob.keeps I3.bk) e1 e2 (I3.bk _ _ e5) e6 e7 e8 ?_
    intro h' hns sb
    have hz : h'.objs.size = s3.heap.objs.size + 1 := by rw [sb.1, Heap.size_push]
    have hlt : ∀ b ∈ fp, b < s3.heap.objs.size := fun b hb => let ⟨o, e, _⟩ := T.obj _ _ st2 b hb; Heap.lt_size (hk b hb o e)
    have ffp : ∀ b ∈ fp, FpOk X pins H2 b ∧ b < s3.heap.objs.size := fun b hb => ⟨⟨nfp b hb, (f2 b hb).2⟩, hlt b hb⟩
    refine hQ J H1 H2 _ s3.gens.size _ q hT ⟨s3, fp, it, tn, genEnv scope (cloFrom X.env.cells scope.names []) s3.heap.objs.size code builtinsNs X.env, { cls := .type "generator", data := .fields #[.int s3.gens.size 0, .str "<genexpr>" (s3.toks + 1), .str (X.env.qual ++ "<genexpr>") (s3.toks + 1 + 1)] }, I3, fun b hb => ⟨ffp b hb, nfp b hb⟩, T, ?_, rfl, ?_, ?_, ?_, ?_⟩
    · exact T.keep _ _ _ st2 fun b hb o e => Heap.get?_push_of_some _ ((sb.2 b (Nat.ne_of_lt (hlt b hb))).trans (Heap.get?_push_of_some _ (hk b hb o e)))
    · exact fun h e => ⟨_, _, _, e, rfl, rfl, rfl⟩
    · show (s3.gens.push _)[s3.gens.size]? = _
      simp
    · intro hm
      have := hlt _ hm
      rw [hz] at this
      exact Nat.lt_irrefl _ (Nat.lt_of_succ_lt this)
    · intro Ag hA hAf
      exact gen_start I3 ok hN hcell h0 ffp hns sb (I3.bare.push rfl) (fun v z => nomatch z) rfl hA hAf
  cases hf : codeAmong pos ps.toList with
  | none =>
    refine wpAny_genexprCodeX hcode (cd.code hPs htr) (cd.tab hPs) hf fun c' h' tk hx hge hlt hco' _ htab' _ => ?_
    obtain ⟨o1, vs, f1, tf, fl, tg, inF, tx, tt, op, _, _, _, _, _, _, _, _, _, htr2, _⟩ := hco'
    have I3 := GxR.inv_tab (more := #[rawInt pos.line, rawInt pos.col, .ref c']) (h' := h') (g' := s2.gens) (d' := s2.drawn) (t' := tk) I2 hP (fun b u hb e => hx b u hb e) htab'.2 I2.bare
    have nb : ∀ b ∈ fp, b ≠ P := fun b hb z => by have := (f2 b hb).1; rw [z, hP] at this; cases this
    exact cont (.ref c') _ _ I3 (.inr ⟨ps, c', hP, rfl, htr2⟩) (fun b hb => by rw [upd_ne (nb b hb)]; exact (f2 b hb).1) fun b hb o e => hx b o (nb b hb) e
  | some cv =>
    refine wpAny_genexprCode_hit hcode (cd.code hPs htr) hf ?_
    exact cont cv s2 H1 I2 (.inl rfl) (fun b hb => (f2 b hb).1) fun b hb o e => e
/-- a list is laid while it sleeps -/
theorem GReady.lay {H0 : Hp} {scope : Scope} {own : List (Str × Nat)} {elt tg iter : Expr} {ifs : List Expr} {pos : Pos} {J : It} {a g : Nat} {s5 : Shared} (G : GReady X pins σ H0 H scope own elt tg iter ifs pos J a g s5) {h' : Heap} (hk : ∀ b o, s5.heap.get? b = some o → h'.get? b = some o) {n : Nat}
    (hS : h'.get? s5.heap.objs.size = some { cls := .type "list", data := .seq #[] n }) : GReady X pins σ H0 (upd H s5.heap.objs.size (.lst [])) scope own elt tg iter ifs pos J a g { s5 with heap := h' } := by
  obtain ⟨s4, fp, it, tn, genv, go, I4, ffp, T, st, hsc, hgen, hgens, hafp, hI⟩ := G.ex
  have hlt : ∀ b ∈ fp, b < s5.heap.objs.size := fun b hb => let ⟨o, e, _⟩ := T.obj _ _ st b hb; Heap.lt_size e
  refine ⟨s4, fp, it, tn, genv, go, I4, fun b hb => ⟨(ffp b hb).1, by rw [upd_ne (Nat.ne_of_lt (hlt b hb))]; exact (ffp b hb).2⟩, T, T.keep _ _ _ st fun b hb o e => hk b o e, hsc, hgen, hgens, hafp, fun Ag h1 h2 => ?_⟩
  exact (hI Ag h1 h2).laid (t' := s5.toks) hk (Nat.le_refl _) ⟨Nat.zero_le _, [], n, .nil, hS⟩
end
end Bk

namespace Bk
open L2 PyProof.Rows PySem.Spec PySem GenW

/-! ## any(genexp), all(genexp) -/
/-- the walk and what is asked at each turn -/
def GWish (stop : Bool) (g : TG) (tt : TT) (te : TE) (vs : List Nat) (σ : Sl) (Q : VK) (J : It) (H2 : Hp) : Prop :=
  ∃ V : Nat → Nat → Hp → Prop, (∃ m, V 0 m H2) ∧ ∀ i m H, V i m H → (J.stop i H ∧ Q (.bl (!stop)) H) ∨ (J.go i H ∧ 0 < m ∧ ∃ Nx : Hp → Prop, (∀ H', Nx H' → ∃ m', m' < m ∧ V (i + 1) m' H') ∧
    ∀ x H', J.yld i H x H' → g x (wipe σ vs) H' fun σ2 H2 => wipe σ2 vs = wipe σ vs ∧ tt σ2 H2 fun b H3 => if b = true then te σ2 H3 fun y H4 => DemB stop (fun H => Q (.bl stop) H) y H4 Nx else Nx H3)
def tGenB (stop : Bool) (P : Addr) (gpos : Pos) (wi : TI) (g : TG) (tt : TT) (te : TE) (vs : List Nat) : TE := fun σ H Q => wi σ H fun J H1 => (∃ ps : Array Value, H1 P = some (.tbl ps) ∧ TriplesOk ps.toList) ∧ ∀ H2, TabX P gpos H1 H2 → GWish stop g tt te vs σ Q J H2
/-- the start leads to the loop -/
theorem gen_begin {X : Cx} {A : Around} {tg elt iter : Expr} {ifs : List Expr} {scope : Scope} {pos : Pos} {it : Addr} {env : Env} {R : GenEnd} {Y : Protocol} {k : Nat} {s₀ s : Shared} {P : Program} {w : World}
    (self : ∀ (A : Around) (Q : Value → Shared → Prop) (E : Value → Shared → Prop), Q (.ref it) s → wpAny (model P w) A (pyIter (.ref it)) Q E s)
    (loop : Seg (model P w) A R Y k s₀ (gcode elt tg iter ifs scope pos it env) ((model P w).den (gcode elt tg iter ifs scope pos it env)) [] s) :
    Seg (model P w) A R Y k s₀ (.compStart (.GeneratorExp elt [⟨tg, iter, ifs, 0⟩] scope pos) 0 (.ref it) .none env) ((model P w).den (.compStart (.GeneratorExp elt [⟨tg, iter, ifs, 0⟩] scope pos) 0 (.ref it) .none env)) [] s := by
  show Seg _ A _ _ _ s₀ _ ((compStart (.GeneratorExp elt [⟨tg, iter, ifs, 0⟩] scope pos) 0 (.ref it) .none env).onRaise (leaving env)) [] s
  unfold compStart
  rw [Sem.onRaise_eq_wrap]
  show Seg _ A _ _ _ s₀ _ ((ask >>= _).wrap _ _ _ _) [] s
  refine seg_bind_wrap (wpAny_askSetting ?_)
  split
  · exact seg_again rfl loop
  · first
      | exact seg_bind_wrap (wpAny_rule (seg_bind_wrap (wpAny_standAt (seg_bind_wrap (self _ _ _ (seg_again rfl loop))))))
      | (refine seg_bind_wrap (wpAny_rule ?_); show Seg _ A _ _ _ s₀ _ ((standAt iter.pos >>= _).wrap _ _ _ _) [] s; exact seg_bind_wrap (wpAny_standAt (seg_bind_wrap (self _ _ _ (seg_again rfl loop)))))
section
variable {X : Cx}
theorem gen_asleep {pins : List (Addr × Obj)} {σ : Sl} {H0 H2 : Hp} {elt tg iter : Expr} {ifs : List Expr} {scope : Scope} {own : List (Str × Nat)} {gpos : Pos} {J : It} {a g k m : Nat} {s5 : Shared} {gt : TG} {tt : TT} {te : TE} {A : Around} {Dem : V → Hp → (Hp → Prop) → Prop} {EndH : Hp → Prop} {V : Nat → Nat → Hp → Prop}
    (hc : X.calm = true) (hr : Room (k + 1) A) (hAf : A.frames = some X.stack) (hco : scope.isCoroutine = false)
    (hg : ∀ (A : Around) (s : Shared) (H : Hp) (genv : Env) (fp : List Addr) (a : Addr) (o : Obj), genv.scope = scope → Room k A → PG (gcx X A s H scope genv fp a o) tg gt)
    (ht : ∀ (A : Around) (s : Shared) (H : Hp) (genv : Env) (fp : List Addr) (a : Addr) (o : Obj), genv.scope = scope → Room k A → PTs (gcx X A s H scope genv fp a o) ifs tt)
    (he : ∀ (A : Around) (s : Shared) (H : Hp) (genv : Env) (fp : List Addr) (a : Addr) (o : Obj), genv.scope = scope → Room k A → PE (gcx X A s H scope genv fp a o) elt te)
    (G : GReady X pins σ H0 H2 scope own elt tg iter ifs gpos J a g s5) (hV : V 0 m H2)
    (turn : ∀ i m H, V i m H → (J.stop i H ∧ EndH H) ∨ (J.go i H ∧ 0 < m ∧ ∃ Nx : Hp → Prop, (∀ H', Nx H' → ∃ m', m' < m ∧ V (i + 1) m' H') ∧ ∀ x H', J.yld i H x H' → gt x (wipe σ (own.map (·.2))) H' fun σ2 H2 => (∀ (j : Nat) v, (wipe σ (own.map (·.2)))[j]? = some (some v) → σ2[j]? = some (some v)) ∧ (wipe σ (own.map (·.2))).length = σ2.length ∧
      tt σ2 H2 fun b H3 => if b = true then te σ2 H3 fun y H4 => Dem y H4 Nx else Nx H3)) :
    ∃ (Xg : Cx) (fp : List Addr) (s4 : Shared), Asleep Xg fp Dem EndH A a g m s5 ∧ (Xg.prog = X.prog ∧ Xg.w = X.w) ∧ (∃ o, (a, o) ∈ Xg.pn ∧ ∀ h : Heap, h.get? a = some o → h.IsGen a g) ∧
      ∀ (pins' : List (Addr × Obj)) (σ' : Sl) (H' : Hp) (s' : Shared), L2.Inv Xg pins' σ' H' s' → L2.Inv X pins σ H' s' := by
  obtain ⟨s4, fp, it, tn, genv, go, I4, ffp, T, st, hsc, hgen, hgens, hafp, hI⟩ := G.ex
  have hover : (A.over (gcode elt tg iter ifs scope gpos it genv) []).handled = none := hr.hd
  have hfr : (A.over (gcode elt tg iter ifs scope gpos it genv) []).frames = some (genv :: X.stack) := by
    have e1 : (A.over (gcode elt tg iter ifs scope gpos it genv) []).frames = pushEnvs (gcode elt tg iter ifs scope gpos it genv).envs (pushEnvs [] A.frames) := rfl
    rw [e1, hAf]
    rfl
  have hroom : Room k (A.over (gcode elt tg iter ifs scope gpos it genv) []) := by
    have e1 : (A.over (gcode elt tg iter ifs scope gpos it genv) []).depth = A.depth + 0 + 1 := rfl
    have e2 : (A.over (gcode elt tg iter ifs scope gpos it genv) []).units = A.units + 0 + 3 := rfl
    have h1 := hr.dp
    have h2 := hr.un
    exact ⟨hover, by rw [e1]; omega, by rw [e2]; omega⟩
  have I5 := hI _ hover hfr
  have nfp : ∀ b ∈ fp, H2 b = none := fun b hb => (ffp b hb).2
  refine ⟨gcx X (A.over (gcode elt tg iter ifs scope gpos it genv) []) s4 H0 scope genv fp a go, fp, s4, ⟨?_, I5.nolimit, _, hgens, rfl, ?_⟩, ⟨rfl, rfl⟩, ⟨go, List.mem_singleton.mpr rfl, hgen⟩, fun pins' σ' H' s' I' => ?_⟩
  · exact hgen _ (I5.pin (a, go) (List.mem_append_left _ (List.mem_singleton.mpr rfl))).1
  · have C : GCtx (gcx X (A.over (gcode elt tg iter ifs scope gpos it genv) []) s4 H0 scope genv fp a go) fp := ⟨rfl, hc, by show genv.scope.isCoroutine = false; rw [hsc]; exact hco, rfl, fun p hp => by rw [show p = (a, go) from List.mem_singleton.mp hp]; exact hafp⟩
    have st' : tn 0 (s5.setGen g .running).heap := st
    have I6 : L2.Inv (gcx X (A.over (gcode elt tg iter ifs scope gpos it genv) []) s4 H0 scope genv fp a go) [] (wipe σ (own.map (·.2))) H2 (s5.setGen g .running) := inv_gens (t := s5.toks) I5 (allBare_setGen I5.bare rfl)
    refine gen_begin (X := X) (fun A' Q E q => T.self A' 0 _ Q E st' q) ?_
    exact gen_loop (X := gcx X (A.over (gcode elt tg iter ifs scope gpos it genv) []) s4 H0 scope genv fp a go) C rfl T (hg _ _ _ _ _ _ _ hsc hroom) (ht _ _ _ _ _ _ _ hsc hroom) (he _ _ _ _ _ _ _ hsc hroom) turn m m 0 _ _ H2 [] (Nat.le_refl _) hV I6 (fun p hp => by cases hp) st' nfp
  · exact I4.call' (ch := fp) I'.os I'.base I'.hok I'.bare fun b hb => ⟨(ffp b hb).1.1.2.2.2.1, (ffp b hb).1.1.2.1, (ffp b hb).1.1.2.2.2.2.1, (ffp b hb).1.1.2.2.2.2.2⟩
end
end Bk

namespace Bk
open L2 PyProof.Rows PySem.Spec PySem GenW

section
variable {X : Cx}
/-- the facts of a generator's scope -/
structure GScp (X : Cx) (scope : Scope) (own : List (Str × Nat)) : Prop where
  ok : BlkOk X.N X.env.scope scope own
  co : scope.isCoroutine = false
  cell : ∀ y ∈ scope.names, y.2 ≠ .cell
  dot : scope.names.lookup (".0" : Str) = some NameKind.local
  h0 : (".0" : Str) ∉ X.N
theorem gturn {J : It} {vs : List Nat} {σ : Sl} {gt : TG} {tt : TT} {te : TE} {Dem : V → Hp → (Hp → Prop) → Prop} {E : Hp → Prop} {V : Nat → Nat → Hp → Prop} (mono : ∀ {v σ H} {Q Q' : Sl → Hp → Prop}, gt v σ H Q → (∀ σ H, Q σ H → Q' σ H) → gt v σ H Q')
    (turn : ∀ i m H, V i m H → (J.stop i H ∧ E H) ∨ (J.go i H ∧ 0 < m ∧ ∃ Nx : Hp → Prop, (∀ H', Nx H' → ∃ m', m' < m ∧ V (i + 1) m' H') ∧
      ∀ x H', J.yld i H x H' → gt x (wipe σ vs) H' fun σ2 H2 => wipe σ2 vs = wipe σ vs ∧ tt σ2 H2 fun b H3 => if b = true then te σ2 H3 fun y H4 => Dem y H4 Nx else Nx H3)) :
    ∀ i m H, V i m H → (J.stop i H ∧ E H) ∨ (J.go i H ∧ 0 < m ∧ ∃ Nx : Hp → Prop, (∀ H', Nx H' → ∃ m', m' < m ∧ V (i + 1) m' H') ∧ ∀ x H', J.yld i H x H' → gt x (wipe σ vs) H' fun σ2 H2 => (∀ (j : Nat) v, (wipe σ vs)[j]? = some (some v) → σ2[j]? = some (some v)) ∧ (wipe σ vs).length = σ2.length ∧
      tt σ2 H2 fun b H3 => if b = true then te σ2 H3 fun y H4 => Dem y H4 Nx else Nx H3) := fun i m H hV => (turn i m H hV).imp id fun ⟨go, hm, Nx, h1, h2⟩ => ⟨go, hm, Nx, h1, fun x H' y => mono (h2 x H' y) fun σ2 H2 ⟨w, q⟩ => ⟨fun j v e => by rw [← w] at e; exact (wipe_some e).1, by rw [← w, wipe_length], q⟩⟩
theorem pe_anyG {c P : Addr} {elt tg iter : Expr} {ifs : List Expr} {scope : Scope} {own : List (Str × Nat)} {p pos gpos : Pos} {wi : TI} {gt : TG} {tt : TT} {te : TE} {k : Nat} (hc : X.calm = true) (hr : Room (k + 2) X.A) (hgl : Gl X "any") (hm : X.mg "any" = none) (TB : GxR.TabB X.base X.mg c P) (hcode : X.env.code = .ref c) (S : GScp X scope own) (hN : X.N.Nodup)
    (mono : ∀ {v σ H} {Q Q' : Sl → Hp → Prop}, gt v σ H Q → (∀ σ H, Q σ H → Q' σ H) → gt v σ H Q') (hi : PI X tg iter wi) (hs : ∀ v, genFold iter X.env v = pure v)
    (hg : ∀ (A : Around) (s : Shared) (H : Hp) (genv : Env) (fp : List Addr) (a : Addr) (o : Obj), genv.scope = scope → Room k A → PG (gcx X A s H scope genv fp a o) tg gt)
    (ht : ∀ (A : Around) (s : Shared) (H : Hp) (genv : Env) (fp : List Addr) (a : Addr) (o : Obj), genv.scope = scope → Room k A → PTs (gcx X A s H scope genv fp a o) ifs tt)
    (he : ∀ (A : Around) (s : Shared) (H : Hp) (genv : Env) (fp : List Addr) (a : Addr) (o : Obj), genv.scope = scope → Room k A → PE (gcx X A s H scope genv fp a o) elt te) :
    PE X (.Call (.Name "any" p) [.GeneratorExp elt [⟨tg, iter, ifs, 0⟩] scope gpos] [] pos) (tGenB true P gpos wi gt tt te (own.map (·.2))) := by
  refine ⟨fun pins s σ H Q I h => ?_⟩
  have hst : starEach [.GeneratorExp elt [⟨tg, iter, ifs, 0⟩] scope gpos] X.env = (false, eval (.GeneratorExp elt [⟨tg, iter, ifs, 0⟩] scope gpos) X.env) :: starEach [] X.env := rfl
  refine wpAny_Call_Name_kw (ld_blt I hgl hm boot_any (PyProof.Rows.callWith_builtin1 ?_ hst rfl))
  rw [hst]
  show wpAny _ _ (spliced ((false, eval (.GeneratorExp elt [⟨tg, iter, ifs, 0⟩] scope gpos) X.env) :: backTo pos (starEach [] X.env))) _ _ s
  refine Calls.spliced_cons (gen_make (R := fun J H1 => ∀ H2, TabX P gpos H1 H2 → GWish true gt tt te (own.map fun (q : Str × Nat) => q.2) σ Q J H2)
    hr TB hcode S.ok hN S.co S.cell S.dot S.h0 hi hs I h fun J H1 H2 a g s5 hR hT hG => ?_)
  refine Calls.spliced_nil ?_
  obtain ⟨V, ⟨m, hV⟩, turn⟩ := hR H2 hT
  have hfr : X.A.frames = some X.stack := I.ok.frames
  have hr1 : Room (k + 1) X.A.in1.in1 := ⟨hr.hd, by have := hr.dp; show X.A.depth + _ + _ < _; omega, by have := hr.un; show X.A.units + 1 + 1 + _ + _ < _; omega⟩
  obtain ⟨Xg, fp, s4, hsl, ⟨e1, e2⟩, hpn, back⟩ := gen_asleep (A := X.A.in1.in1) hc hr1 hfr S.co hg ht he hG hV (gturn mono turn)
  rw [← e1, ← e2]
  refine call_function_tree F.kind_any F.plain_any F.entry_any (F.args_any1 _) ?_
  unfold Builtin.«any»
  refine wpAny_bind (m := oneArg "any" _) (wpAny_pure ?_)
  refine wpAny_bind (wpAny_pyIter_gen hsl.1 ?_)
  refine wpAny_pure ⟨plainId_quiet F.plain_any_loop _, any_go (A := X.A) hr.hd (by have := hr.dp; omega) hpn (fun s' pins' σ' H' I' q => ?_) (fun s' pins' σ' H' I' q => ?_) m s5 hsl⟩
  · exact ⟨.bl true, H', back _ _ _ _ I', rfl, q⟩
  · exact ⟨.bl false, H', back _ _ _ _ I', rfl, q⟩
theorem pe_allG {c P : Addr} {elt tg iter : Expr} {ifs : List Expr} {scope : Scope} {own : List (Str × Nat)} {p pos gpos : Pos} {wi : TI} {gt : TG} {tt : TT} {te : TE} {k : Nat} (hc : X.calm = true) (hr : Room (k + 2) X.A) (hgl : Gl X "all") (hm : X.mg "all" = none) (TB : GxR.TabB X.base X.mg c P) (hcode : X.env.code = .ref c) (S : GScp X scope own) (hN : X.N.Nodup)
    (mono : ∀ {v σ H} {Q Q' : Sl → Hp → Prop}, gt v σ H Q → (∀ σ H, Q σ H → Q' σ H) → gt v σ H Q') (hi : PI X tg iter wi) (hs : ∀ v, genFold iter X.env v = pure v)
    (hg : ∀ (A : Around) (s : Shared) (H : Hp) (genv : Env) (fp : List Addr) (a : Addr) (o : Obj), genv.scope = scope → Room k A → PG (gcx X A s H scope genv fp a o) tg gt)
    (ht : ∀ (A : Around) (s : Shared) (H : Hp) (genv : Env) (fp : List Addr) (a : Addr) (o : Obj), genv.scope = scope → Room k A → PTs (gcx X A s H scope genv fp a o) ifs tt)
    (he : ∀ (A : Around) (s : Shared) (H : Hp) (genv : Env) (fp : List Addr) (a : Addr) (o : Obj), genv.scope = scope → Room k A → PE (gcx X A s H scope genv fp a o) elt te) :
    PE X (.Call (.Name "all" p) [.GeneratorExp elt [⟨tg, iter, ifs, 0⟩] scope gpos] [] pos) (tGenB false P gpos wi gt tt te (own.map (·.2))) := by
  refine ⟨fun pins s σ H Q I h => ?_⟩
  have hst : starEach [.GeneratorExp elt [⟨tg, iter, ifs, 0⟩] scope gpos] X.env = (false, eval (.GeneratorExp elt [⟨tg, iter, ifs, 0⟩] scope gpos) X.env) :: starEach [] X.env := rfl
  refine wpAny_Call_Name_kw (ld_blt I hgl hm boot_all (PyProof.Rows.callWith_builtin1 ?_ hst rfl))
  rw [hst]
  show wpAny _ _ (spliced ((false, eval (.GeneratorExp elt [⟨tg, iter, ifs, 0⟩] scope gpos) X.env) :: backTo pos (starEach [] X.env))) _ _ s
  refine Calls.spliced_cons (gen_make (R := fun J H1 => ∀ H2, TabX P gpos H1 H2 → GWish false gt tt te (own.map fun (q : Str × Nat) => q.2) σ Q J H2)
    hr TB hcode S.ok hN S.co S.cell S.dot S.h0 hi hs I h fun J H1 H2 a g s5 hR hT hG => ?_)
  refine Calls.spliced_nil ?_
  obtain ⟨V, ⟨m, hV⟩, turn⟩ := hR H2 hT
  have hfr : X.A.frames = some X.stack := I.ok.frames
  have hr1 : Room (k + 1) X.A.in1.in1 := ⟨hr.hd, by have := hr.dp; show X.A.depth + _ + _ < _; omega, by have := hr.un; show X.A.units + 1 + 1 + _ + _ < _; omega⟩
  obtain ⟨Xg, fp, s4, hsl, ⟨e1, e2⟩, hpn, back⟩ := gen_asleep (A := X.A.in1.in1) hc hr1 hfr S.co hg ht he hG hV (gturn mono turn)
  rw [← e1, ← e2]
  refine call_function_tree F.kind_all F.plain_all F.entry_all (F.args_all1 _) ?_
  unfold Builtin.«all»
  refine wpAny_bind (m := oneArg "all" _) (wpAny_pure ?_)
  refine wpAny_bind (wpAny_pyIter_gen hsl.1 ?_)
  refine wpAny_pure ⟨plainId_quiet F.plain_all_loop _, all_go (A := X.A) hr.hd (by have := hr.dp; omega) hpn (fun s' pins' σ' H' I' q => ?_) (fun s' pins' σ' H' I' q => ?_) m s5 hsl⟩
  · exact ⟨.bl false, H', back _ _ _ _ I', rfl, q⟩
  · exact ⟨.bl true, H', back _ _ _ _ I', rfl, q⟩
end
end Bk

namespace Bk
open L2 PyProof.Rows PySem.Spec PySem GenW

section
variable {X : Cx} {G : Gl0} {W : WX} {μ : List Addr} {st : Store} {ρ : Lc} {σ : Sl} {H : Hp}
/-- any, all: what the walk asks -/
theorem any_core {stop : Bool} {J : It} {vs : List Nat} {cur : Cur} {n : Nat} {g : SG} {t : ST} {f : SE} {Q : VK} (S : Sim G μ st H) (l : Lo G μ ρ σ H) (cu : CurOk G μ H cur J)
    (p : Post G W (Rep G) μ H σ Q (noExn ((anyC stop g t f (wipeD ρ vs) cur n 0 st).bind fun b st2 => .ok (.bl b) st2))) : GWish stop (xG G vs g) (xT G WF t) (xE G WF f) vs σ Q J H := by
  refine ⟨fun i n H2 => ∃ μ2 st2, Step μ H μ2 H2 ∧ Sim G μ2 st2 H2 ∧ Post G W (Rep G) μ H σ Q (noExn ((anyC stop g t f (wipeD ρ vs) cur n i st2).bind fun b st3 => .ok (.bl b) st3)), ⟨n, μ, st, Step.refl _ _, S, p⟩, ?_⟩
  rintro i n2 H2 ⟨μ2, st2, s2, S2, p2⟩
  have y : Yld G μ2 H2 i J (cur i st2) := cu.run G.hid μ2 st2 H2 i (fun a h => .inl h) s2.x S2
  cases n2 with
  | zero => exact p2.elim
  | succ n2 =>
    unfold anyC at p2
    cases e : cur i st2 with
    | none => rw [e] at p2; exact p2.elim
    | some o =>
      rw [e] at p2 y
      cases o with
      | none => exact .inl ⟨y, p2 μ2 H2 _ s2 S2 (.bl _)⟩
      | some d =>
        obtain ⟨y1, y2⟩ := y
        cases eg : g d (wipeD ρ vs) with
        | none => simp only [eg] at p2; exact p2.elim
        | some ρ3 =>
          simp only [eg] at p2
          refine .inr ⟨y1, Nat.succ_pos _, fun H' => ∃ m', m' < n2 + 1 ∧ ∃ μ2 st2, Step μ H μ2 H' ∧ Sim G μ2 st2 H' ∧ Post G W (Rep G) μ H σ Q (noExn ((anyC stop g t f (wipeD ρ vs) cur m' (i + 1) st2).bind fun b st3 => .ok (.bl b) st3)), fun H' h => h, fun x H3 hy => ?_⟩
          obtain ⟨h3, r⟩ := y2 x H3 hy
          have s3 : Step μ2 H2 μ2 H3 ∧ Sim G μ2 st2 H3 := by
            rcases h3 with rfl | ⟨T, u, n, rfl⟩
            · exact ⟨Step.refl _ _, S2⟩
            · exact ⟨step_new n, S2.new n⟩
          refine ⟨G.hid, μ2, wipeD ρ vs, d, ρ3, (l.wipe vs).step (s2.trans s3.1), r, eg, fun σ4 l4 k4 => ⟨by rw [k4.wipe, wipe_idem], G.hid, μ2, ρ3, st2, s3.2, l4, ?_⟩⟩
          cases et : t ρ3 st2 with
          | exn c st5 => rw [et] at p2; exact p2.elim
          | stuck => rw [et] at p2; exact p2.elim
          | ok b st5 =>
            rw [et] at p2
            intro μ5 H5 b' s5 S5 eb
            subst eb
            cases b with
            | false => exact ⟨n2, Nat.lt_succ_self _, μ5, st5, (s2.trans s3.1).trans s5, S5, p2⟩
            | true =>
              refine ⟨G.hid, μ5, ρ3, st5, S5, l4.step s5, ?_⟩
              have p3 : Post G W (Rep G) μ H σ Q (noExn (((f ρ3 st5).bind fun y st3 => (match y with
                | .bl c => if c = stop then .ok stop st3 else anyC stop g t f (wipeD ρ vs) cur n2 (i + 1) st3
                | _ => .stuck : R Bool)).bind fun b st3 => .ok (.bl b) st3)) := p2
              cases ef : f ρ3 st5 with
              | exn c st6 => rw [ef] at p3; exact p3.elim
              | stuck => rw [ef] at p3; exact p3.elim
              | ok dy st6 =>
                rw [ef] at p3
                intro μ6 H6 y s6 S6 ry
                have s16 := ((s2.trans s3.1).trans s5).trans s6
                cases ry with
                | bl c =>
                  have p4 : Post G W (Rep G) μ H σ Q (noExn ((if c = stop then R.ok stop st6 else anyC stop g t f (wipeD ρ vs) cur n2 (i + 1) st6).bind fun b st3 => .ok (.bl b) st3)) := p3
                  refine ⟨c, rfl, fun hc => ?_, fun hc => ?_⟩
                  · rw [if_pos hc] at p4
                    exact p4 μ6 H6 _ s16 S6 (.bl _)
                  · rw [if_neg hc] at p4
                    exact ⟨n2, Nat.lt_succ_self _, μ6, st6, s16, S6, p4⟩
                | _ => exact (p3 : False).elim
theorem codeAmong_app {pos : Pos} {l c : Int} {x cv : Value} (ps : List Value) (h : TriplesOk ps) (e : codeAmong pos (ps ++ [rawInt l, rawInt c, x]) = some cv) : codeAmong pos ps = some cv ∨ (l = pos.line ∧ c = pos.col) := by
  fun_induction TriplesOk ps with
  | case1 =>
    right
    simp only [List.nil_append, codeAmong, rawInt] at e
    split at e
    · rename_i hh
      simpa using hh
    · cases e
  | case2 a t b u y rest ih =>
    simp only [List.cons_append, codeAmong] at e ⊢
    split at e
    · rename_i hh
      rw [if_pos hh]; exact .inl e
    · rename_i hh
      rw [if_neg hh]; exact ih h e
  | case3 l' h1 h2 => exact h.elim
theorem step_tab {P : Addr} {ps : Array Value} {u : HO} (e : H P = some (.tbl ps)) (hu : ∀ o w, u ≠ .frz o w) : Step μ H μ (upd H P u) where
  pre := ⟨[], by simp, by simp⟩
  keep := fun a o _ e' hf => by rw [upd_ne (fun z => by subst z; rw [e] at e'; cases e'; exact hf)]; exact e'
  keepD := fun a o _ e' hf => .inl (by rw [upd_ne (fun z => by subst z; rw [e] at e'; cases e'; exact hf)]; exact e')
  there := fun a o e' => by
    by_cases z : a = P
    · exact ⟨u, by rw [z, upd_same]⟩
    · exact ⟨o, by rw [upd_ne z]; exact e'⟩
  lock := fun a o w e' => by rw [upd_ne (fun z => by subst z; rw [e] at e'; cases e')]; exact e'
theorem Sim.tabx {P : Addr} {gpos : Pos} {H2 : Hp} (S : Sim G μ st H) (t : TabX P gpos H H2) (hl : ∀ q, G.isLam q = true → ¬ (q.line = gpos.line ∧ q.col = gpos.col)) : Step μ H μ H2 ∧ Sim G μ st H2 := by
  rcases t with rfl | ⟨ps, c, e, rfl, htr⟩
  · exact ⟨Step.refl _ _, S⟩
  · have s : Step μ H μ (upd H P (.tbl (ps ++ #[rawInt gpos.line, rawInt gpos.col, .ref c]))) := step_tab e (fun _ _ z => nomatch z)
    have nP : ∀ a (o : HO), H a = some o → (∀ qs, o ≠ .tbl qs) → a ≠ P := fun a o e' n z => by subst z; rw [e] at e'; cases e'; exact n ps rfl
    refine ⟨s, S.len, S.nd, fun l o a h1 h2 => ?_, fun q hq => ?_, fun a ha => ?_⟩
    · have ho := S.obj l o a h1 h2
      obtain ⟨u, e1, lu⟩ := ho.some
      exact ho.step s (upd_ne (nP a u e1 fun qs z => by subst z; exact lu))
    · obtain ⟨qs, h1, h2, h3⟩ := S.tab q hq
      by_cases z : q.1 = P
      · rw [z, e] at h1
        cases h1
        refine ⟨_, by rw [z, upd_same], htr, fun pos cv hc hi => ?_⟩
        have hc' : codeAmong pos (ps.toList ++ [rawInt gpos.line, rawInt gpos.col, .ref c]) = some cv := by simpa using hc
        rcases codeAmong_app ps.toList h2 hc' with h4 | h4
        · obtain ⟨c', k1, k2⟩ := h3 pos cv h4 hi
          exact ⟨c', k1, by rw [upd_ne (nP _ _ k2 fun qs z => by unfold LamX.CodeO at z; cases z)]; exact k2⟩
        · refine absurd ⟨?_, ?_⟩ (hl pos hi) <;> omega
      · refine ⟨qs, by rw [upd_ne z]; exact h1, h2, fun pos cv hc hi => ?_⟩
        obtain ⟨c', k1, k2⟩ := h3 pos cv hc hi
        exact ⟨c', k1, by rw [upd_ne (nP _ _ k2 fun qs z => by unfold LamX.CodeO at z; cases z)]; exact k2⟩
    · obtain ⟨h1, u, h2, h3⟩ := S.hid a ha
      exact ⟨h1, u, by rw [upd_ne (nP a u h2 fun qs z => by subst z; exact h3)]; exact h2, h3⟩
/-- any(..), all(..) of a genexp -/
theorem run_any {stop : Bool} {P : Addr} {q : Str} {gpos : Pos} {vs : List Nat} {fi : SI} {g : SG} {t : ST} {f : SE} {Q : VK} (wc : WCl X W) (hP : (P, q) ∈ G.tabs) (hl : ∀ q, G.isLam q = true → ¬ (q.line = gpos.line ∧ q.col = gpos.col)) (h : tE G W (sAny stop vs fi g t f) σ H Q) :
    tGenB stop P gpos (tI X G W fi) (xG G vs g) (xT G WF t) (xE G WF f) vs σ H (fun v H1 => ∃ H2, UH X H1 H2 ∧ Q v H2) := by
  obtain ⟨μ, ρ, st, q⟩ := h
  refine ⟨μ, ρ, st, q.sim, q.lo, ?_⟩
  have p : Post G W (Rep G) μ H σ Q ((fi ρ st).bind fun w st1 => unlkR w.lk (noExn ((anyC stop g t f (wipeD ρ vs) w.cur w.n 0 st1).bind fun b st2 => .ok (.bl b) st2))) := q.post
  cases e : fi ρ st with
  | ok w st1 =>
    rw [e] at p
    intro μ1 H1 J s S cu lk
    obtain ⟨ps, h1, h2, _⟩ := S.tab _ hP
    refine ⟨⟨ps, h1, h2⟩, fun H2 hT => ?_⟩
    obtain ⟨s2, S2⟩ := S.tabx hT hl
    have c2 : CurOk G μ1 H2 w.cur J := ⟨fun h μ' st' H' i hh ⟨H3, s3, hx⟩ S' => cu.run h μ' st' H' i (fun a ha => (hh a ha).imp id fun z => by
      cases e9 : H1 a with
      | none => rfl
      | some o => obtain ⟨o', e'⟩ := s2.there a o e9; rw [z] at e'; cases e') ⟨H3, s2.trans s3, hx⟩ S'⟩
    exact any_core S2 ((q.lo.step s).step s2) c2 (Post.unl (s.trans s2) lk wc p)
  | exn c st1 => rw [e] at p; exact p
  | stuck => rw [e] at p; exact p
end
end Bk

namespace Bk
open L2 PyProof.Rows PySem.Spec PySem GenW

/-! ## A genexp's items, laid into a list -/
def DemS (S : Addr) : V → Hp → (Hp → Prop) → Prop := fun y H Nx => ∃ acc, H S = some (.lst acc) ∧ acc.length < sizeLine ∧ Nx (upd H S (.lst (acc ++ [y])))
section
variable {X : Cx} {fp : List Addr} {EndH : Hp → Prop} {A : Around} {a S : Addr} {g : Nat} {R : Result → Shared → Prop} {res : Value}
theorem ext_go (hh : A.handled = none) (hd : A.depth < recursionLimit) (hpn : ∃ o, (a, o) ∈ X.pn ∧ ∀ h : Heap, h.get? a = some o → h.IsGen a g)
    (hE : ∀ s' (pins : List (Addr × Obj)) (σ : Sl) (H : Hp), Inv X pins σ H s' → EndH H → R (.ok (.ret res)) s') :
    ∀ (k : Nat) (s : Shared), Asleep X fp (DemS S) EndH A.in1.in1 a g k s → codeAny (model X.prog X.w) A (.builtin "list.extend.loop" ⟨[.ref S, .ref a, res], []⟩) R s := by
  intro k
  induction k using Nat.strongRecOn with
  | ind k ih =>
    intro s h
    refine codeAny_builtin F.entry_extend_loop ?_
    rw [Around.under_plainId F.plain_extend_loop _]
    show wpAny _ A.in1 (pyNext (.ref a) >>= _) _ _ s
    refine wpAny_bind (gen_next hh hd hpn h (fun v s1 y σ H pins ip Nx r I hp dm re => ?_) fun s1 pins σ H I q => ?_)
    · obtain ⟨acc, hS, hz, nx⟩ := dm
      obtain ⟨hz', its, n, ri, e⟩ := I.hok S _ hS
      have hl := ri.length
      show wpAny _ A.in1 (updateSeq S (·.push v) >>= _) _ _ _
      refine wpAny_bind ?_
      refine wpAny_updateSeq e rfl (wpAny_pure ⟨plainId_quiet F.plain_extend_loop _, ?_⟩) (by rw [List.size_toArray, ← hl]; exact hz') (by show (its.toArray.push v).size ≤ sizeLine + 1; rw [Array.size_push, List.size_toArray, ← hl]; omega)
      have nS : ∀ b ob, b ≠ S → s1.heap.get? b = some ob → (s1.heap.update S (Obj.mapSeq (·.push v))).get? b = some ob := fun b ob hb q => (Heap.get?_update_other _ _ (Ne.symm hb)).trans q
      have eS := Heap.get?_update_self (h := s1.heap) (a := S) (Obj.mapSeq (·.push v)) e rfl
      have I2 : L2.Inv X (pins ++ ip) σ (upd H S (.lst (acc ++ [y]))) { s1 with heap := s1.heap.update S (Obj.mapSeq (·.push v)) } := by
        refine I.write (t' := s1.toks) (by rw [hS]; trivial) (.inl rfl) nS ⟨_, eS⟩ ⟨by rw [List.length_append]; exact hz, its ++ [v], n + 1, ri.append (.cons r .nil), ?_⟩
        rw [eS]
        simp [Obj.mapSeq]
      obtain ⟨m, hm, hs⟩ := re pins _ _ hp I2 rfl rfl nx
      exact ih m hm _ hs
    · exact wpAny_pure (hE s1 pins σ H I q)
end
end Bk

namespace Bk
open L2 PyProof.Rows PySem.Spec PySem GenW

/-! ## collect(genexp) -/
/-- the walk that fills the list at S; K: what is asked at the end -/
def LWish (g : TG) (tt : TT) (te : TE) (vs : List Nat) (σ : Sl) (K : Addr → List V → Hp → Prop) (J : It) (H2 : Hp) : Prop :=
  ∀ S, H2 S = none → ∃ V : Nat → Nat → Hp → Prop, (∃ m, V 0 m (upd H2 S (.lst []))) ∧ ∀ i m H, V i m H → (J.stop i H ∧ ∃ xs, H S = some (.lst xs) ∧ K S xs H) ∨ (J.go i H ∧ 0 < m ∧ ∃ Nx : Hp → Prop, (∀ H', Nx H' → ∃ m', m' < m ∧ V (i + 1) m' H') ∧
    ∀ x H', J.yld i H x H' → g x (wipe σ vs) H' fun σ2 H2 => wipe σ2 vs = wipe σ vs ∧ tt σ2 H2 fun b H3 => if b = true then te σ2 H3 fun y H4 => DemS S y H4 Nx else Nx H3)
section
variable {X : Cx}
theorem collect_go {pins : List (Addr × Obj)} {σ : Sl} {H2 : Hp} {elt tg iter : Expr} {ifs : List Expr} {scope : Scope} {own : List (Str × Nat)} {gpos : Pos} {J : It} {a g k : Nat} {s5 : Shared} {gt : TG} {tt : TT} {te : TE} {A : Around} {K : Addr → List V → Hp → Prop} {Q : List Value → Shared → Prop} {E : Value → Shared → Prop}
    (hc : X.calm = true) (hr : Room (k + 1) A.in1.in1) (hAf : A.frames = some X.stack) (hco : scope.isCoroutine = false) (mono : ∀ {v σ H} {Q Q' : Sl → Hp → Prop}, gt v σ H Q → (∀ σ H, Q σ H → Q' σ H) → gt v σ H Q')
    (hg : ∀ (A : Around) (s : Shared) (H : Hp) (genv : Env) (fp : List Addr) (a : Addr) (o : Obj), genv.scope = scope → Room k A → PG (gcx X A s H scope genv fp a o) tg gt)
    (ht : ∀ (A : Around) (s : Shared) (H : Hp) (genv : Env) (fp : List Addr) (a : Addr) (o : Obj), genv.scope = scope → Room k A → PTs (gcx X A s H scope genv fp a o) ifs tt)
    (he : ∀ (A : Around) (s : Shared) (H : Hp) (genv : Env) (fp : List Addr) (a : Addr) (o : Obj), genv.scope = scope → Room k A → PE (gcx X A s H scope genv fp a o) elt te)
    (G : GReady X pins σ H2 H2 scope own elt tg iter ifs gpos J a g s5) (wish : LWish gt tt te (own.map fun (q : Str × Nat) => q.2) σ K J H2)
    (hQ : ∀ (s' : Shared) (H' : Hp) (S : Addr) (xs : List V) (vs : List Value), L2.Inv X pins σ H' s' → H' S = some (.lst xs) → K S xs H' → Vals xs vs → Q vs s') :
    wpAny (model X.prog X.w) A (collect (.ref a)) Q E s5 := by
  have isg : s5.heap.IsGen a g := by
    obtain ⟨s4, fp, it, tn, genv, go, I4, ffp, T, st, hsc, hgen, hgens, hafp, hI⟩ := G.ex
    exact hgen _ ((hI { A with frames := some (genv :: X.stack) } hr.hd rfl).pin (a, go) (List.mem_append_left _ (List.mem_singleton.mpr rfl))).1
  have hn0 : H2 s5.heap.objs.size = none := by
    obtain ⟨s4, fp, it, tn, genv, go, I4, ffp, T, st, hsc, hgen, hgens, hafp, hI⟩ := G.ex
    exact (hI { A with frames := some (genv :: X.stack) } hr.hd rfl).hok.fresh (Nat.le_refl _)
  have hSI : s5.heap.objs.size ≠ a := by
    obtain ⟨o, _, _, e, _⟩ := isg
    exact Nat.ne_of_gt (Heap.lt_size e)
  have gty : ∀ {h : Heap}, (∀ b o, s5.heap.get? b = some o → h.get? b = some o) → h.IsGen a g := fun {h} q => isg.keeps q
  unfold collect
  refine wpAny_bind (wpAny_runValue (codeAny_builtin F.entry_proto_collect ?_))
  rw [Around.under_plainId F.plain_proto_collect _]
  show wpAny _ A.in1 (newList [] >>= fun l => again (.builtin "list.__iadd__" ⟨[l, .ref a], []⟩)) _ _ s5
  refine wpAny_bind (wpAny_newObj_type ?_)
  refine wpAny_pure ⟨plainId_quiet F.plain_list_iadd _, codeAny_builtin F.entry_list_iadd ?_⟩
  rw [Around.under_plainId F.plain_list_iadd _]
  show wpAny _ A.in1 (Builtin.List.listExtendWith (.ref s5.heap.objs.size) (.ref a) (.ref s5.heap.objs.size)) _ _ _
  unfold Builtin.List.listExtendWith
  have k1 : ∀ b o, s5.heap.get? b = some o → (s5.heap.push { cls := .type "list", data := .seq ([] : List Value).toArray }).get? b = some o := fun b o e => Heap.get?_push_of_some _ e
  refine wpAny_bind (wpAny_typeOf (Heap.IsGen.typeIs (s := { s5 with heap := _ }) (gty k1)) ?_)
  have h1 : Builtin.List.listSameRef (.ref s5.heap.objs.size) (.ref a) = false := by simp [Builtin.List.listSameRef, hSI]
  have h2 : (Value.type "generator" == Value.type "list") = false := by decide
  have h3 : (Value.type "generator" == Value.type "tuple") = false := by decide
  simp only [h1, h2, h3, Bool.or_false, Bool.false_eq_true, if_false]
  refine wpAny_bind (wpAny_pyIter_gen (s := { s5 with heap := _ }) (gty k1) ?_)
  refine wpAny_bind (wpAny_holding ?_)
  unfold Builtin.List.listLengthHint
  refine wpAny_bind (wpAny_specialOf (Heap.IsGen.typeIs (s := { s5 with heap := _ }) (gty k1)) F.gen_no_len ?_)
  show wpAny _ A.in1 (specialOf (Value.ref a) (Str.ofString "__length_hint__") >>= _) _ _ _
  refine wpAny_bind (wpAny_specialOf (Heap.IsGen.typeIs (s := { s5 with heap := _ }) (gty k1)) F.gen_no_hint ?_)
  refine wpAny_pure ?_
  show wpAny _ A.in1 (rule "list.extend.makes-room" >>= fun _ => Builtin.List.listTouch (.ref s5.heap.objs.size) >>= fun _ => again (.builtin "list.extend.loop" ⟨[.ref s5.heap.objs.size, .ref a, .ref s5.heap.objs.size], []⟩)) _ _ _
  refine wpAny_bind (wpAny_rule (wpAny_bind ?_))
  have hS₁ : (s5.heap.push { cls := .type "list", data := .seq ([] : List Value).toArray }).get? s5.heap.objs.size = some { cls := .type "list", data := .seq ([] : List Value).toArray } := Heap.get?_push_size _ rfl
  show wpAny _ A.in1 (updateSeq s5.heap.objs.size (·.push .none) >>= fun _ => updateSeq s5.heap.objs.size (·.pop)) _ _ _
  refine wpAny_bind (wpAny_updateSeq hS₁ rfl ?_)
  have hS₂ := Heap.get?_update_self (Obj.mapSeq (·.push Value.none)) hS₁ rfl
  refine wpAny_updateSeq (hz := by seq_fits) hS₂ rfl ?_
  have hS₃ := Heap.get?_update_self (Obj.mapSeq (·.pop)) hS₂ rfl
  have up : ∀ (h : Heap) (f : Obj → Obj), (∀ b o, s5.heap.get? b = some o → h.get? b = some o) → ∀ b o, s5.heap.get? b = some o → (h.update s5.heap.objs.size f).get? b = some o := fun h f q b o e => (Heap.get?_update_other _ _ (Ne.symm (Nat.ne_of_lt (Heap.lt_size e)))).trans (q b o e)
  have k4 := up _ (Obj.mapSeq (·.pop)) (up _ (Obj.mapSeq (·.push Value.none)) k1)
  have G2 := G.lay k4 hS₃
  obtain ⟨V, ⟨m, hV⟩, turn⟩ := wish s5.heap.objs.size hn0
  obtain ⟨Xg, fp, s4, hsl, ⟨e1, e2⟩, hpn, back⟩ := gen_asleep (A := A.in1.in1) hc hr hAf hco hg ht he G2 hV (gturn mono turn)
  refine wpAny_pure ⟨plainId_quiet F.plain_extend_loop _, ?_⟩
  rw [← e1, ← e2]
  refine ext_go (A := A) hr.hd (by have := hr.dp; show A.depth < _; have h9 : A.in1.in1.depth = A.depth := rfl; omega) hpn (fun s' pins' σ' H' I' ⟨xs, q1, q2⟩ => ?_) m _ hsl
  have I6 := back _ _ _ _ I'
  obtain ⟨hz', its, n, ri, e⟩ := I6.hok _ _ q1
  show wpAny _ A (load s5.heap.objs.size >>= _) _ _ s'
  refine wpAny_bind (wpAny_load e ?_)
  refine wpAny_pure ?_
  have := hQ s' H' _ xs its I6 q1 q2 ri
  simpa using this
end
end Bk

namespace Bk
open L2 PyProof.Rows PySem.Spec PySem GenW

/-! ## tuple(genexp), sorted(genexp) -/
section
variable {prog : Program} {w : World} {A : Around} {E : Value → Shared → Prop} {s : Shared} {a : Addr} {P : List Value → Shared → Prop}
theorem col_thru {A : Around} {Q : List Value → Shared → Prop} {E : Value → Shared → Prop} (h : ∀ E, wpAny (model prog w) A (collect (.ref a)) P E s) (k : ∀ vs s', P vs s' → Q vs s') : wpAny (model prog w) A (collect (.ref a)) Q E s := wpAny_mono (h E) k fun _ _ z => z
theorem code_tuple_col {Q₁ : Value → Shared → Prop} (hTI : s.TypeIs (.ref a) "generator") (hcol : ∀ E, wpAny (model prog w) A.in1 (collect (.ref a)) P E s) (hsz : ∀ vs s', P vs s' → vs.length ≤ sizeLine)
    (h : ∀ vs s', P vs s' → Q₁ (.ref s'.heap.objs.size) { s' with heap := s'.heap.push { cls := .type "tuple", data := .seq vs.toArray } }) :
    codeAny (model prog w) A (.call (.builtin "tuple.__new__") ⟨[.type "tuple", .ref a], []⟩) (wants Q₁ E) s := by
  refine codeAny_of_tree ?_
  show wpAny _ A.in1 (do checkBuiltinCall "tuple.__new__" ⟨[.type "tuple", .ref a], []⟩; again (.builtin "tuple.__new__" ⟨[.type "tuple", .ref a], []⟩)) _ _ s
  refine wpAny_bind (wpAny_of_eq (F.newCall_tuple_1 _) (wpAny_pure ⟨plainId_quiet F.plain_tuple_new _, codeAny_builtin F.entry_tuple_new ?_⟩))
  rw [Around.under_plainId F.plain_tuple_new _]
  have hsub := sub_tuple_self
  have hinit := init_tuple_lookup
  have hmh := madeHere_tuple
  wp_walk using wpAny_typeOf hTI, col_thru hcol
  intro vs s' hp
  show wpAny _ _ (Builtin.Tuple.tupleExact vs.toArray >>= fun v => ret v) _ _ _
  unfold Builtin.Tuple.tupleExact
  refine wpAny_bind (wpAny_newObj_type ?_ (by show vs.toArray.size ≤ sizeLine; rw [List.size_toArray]; exact hsz vs s' hp))
  exact wpAny_pure (h vs s' hp)
theorem call_tuple_col {Q : Value → Shared → Prop} (hTI : s.TypeIs (.ref a) "generator") (hcol : ∀ E, wpAny (model prog w) A.in1.in1 (collect (.ref a)) P E s) (hsz : ∀ vs s', P vs s' → vs.length ≤ sizeLine)
    (h : ∀ vs s', P vs s' → Q (.ref s'.heap.objs.size) { s' with heap := s'.heap.push { cls := .type "tuple", data := .seq vs.toArray } }) : wpAny (model prog w) A (call (.type "tuple") [.ref a]) Q E s := by
  refine callType_codes (Q₁ := fun obj s₁ => s₁.TypeIs obj "tuple" ∧ Q obj s₁) F.called_tuple (F.typeCall_tuple_1 _) F.entry_object_init
    (code_tuple_col hTI hcol hsz fun vs s' hp => ⟨⟨_, Heap.get?_push_size _ rfl, rfl⟩, h vs s' hp⟩) fun obj s₁ h₁ => ?_
  exact ⟨h₁.1, F.args_object_init_2 obj _, object_init_meets F.called_tuple.init.lookup F.called_tuple.made (by decide) prog w A.in1 _ s₁ ⟨h₁.1, rfl, h₁.2⟩⟩
end
/-- tuple(genexp) -/
def tGenT (P : Addr) (gpos : Pos) (wi : TI) (g : TG) (tt : TT) (te : TE) (vs : List Nat) : TE := fun σ H Q => wi σ H fun J H1 => (∃ ps : Array Value, H1 P = some (.tbl ps) ∧ TriplesOk ps.toList) ∧ ∀ H2, TabX P gpos H1 H2 → LWish g tt te vs σ (fun _ xs H => ∀ p, H p = none → Q (.ref p) (upd H p (.tup xs))) J H2
section
variable {X : Cx}
theorem pe_tupleG {c P : Addr} {elt tg iter : Expr} {ifs : List Expr} {scope : Scope} {own : List (Str × Nat)} {p pos gpos : Pos} {wi : TI} {gt : TG} {tt : TT} {te : TE} {k : Nat} (hc : X.calm = true) (hr : Room (k + 2) X.A) (hgl : Gl X "tuple") (hm : X.mg "tuple" = none) (hv : bootBuiltins "tuple" = some (.type "tuple")) (TB : GxR.TabB X.base X.mg c P) (hcode : X.env.code = .ref c) (S : GScp X scope own) (hN : X.N.Nodup)
    (mono : ∀ {v σ H} {Q Q' : Sl → Hp → Prop}, gt v σ H Q → (∀ σ H, Q σ H → Q' σ H) → gt v σ H Q') (hi : PI X tg iter wi) (hs : ∀ v, genFold iter X.env v = pure v)
    (hg : ∀ (A : Around) (s : Shared) (H : Hp) (genv : Env) (fp : List Addr) (a : Addr) (o : Obj), genv.scope = scope → Room k A → PG (gcx X A s H scope genv fp a o) tg gt)
    (ht : ∀ (A : Around) (s : Shared) (H : Hp) (genv : Env) (fp : List Addr) (a : Addr) (o : Obj), genv.scope = scope → Room k A → PTs (gcx X A s H scope genv fp a o) ifs tt)
    (he : ∀ (A : Around) (s : Shared) (H : Hp) (genv : Env) (fp : List Addr) (a : Addr) (o : Obj), genv.scope = scope → Room k A → PE (gcx X A s H scope genv fp a o) elt te) :
    PE X (.Call (.Name "tuple" p) [.GeneratorExp elt [⟨tg, iter, ifs, 0⟩] scope gpos] [] pos) (tGenT P gpos wi gt tt te (own.map (·.2))) := by
  refine ⟨fun pins s σ H Q I h => ?_⟩
  have hst : starEach [.GeneratorExp elt [⟨tg, iter, ifs, 0⟩] scope gpos] X.env = (false, eval (.GeneratorExp elt [⟨tg, iter, ifs, 0⟩] scope gpos) X.env) :: starEach [] X.env := rfl
  refine Call_ (ld_blt I hgl hm hv (PyProof.Rows.callWith_type1 ?_ hst rfl))
  rw [hst]
  show wpAny _ _ (spliced ((false, eval (.GeneratorExp elt [⟨tg, iter, ifs, 0⟩] scope gpos) X.env) :: backTo pos (starEach [] X.env))) _ _ s
  refine Calls.spliced_cons (gen_make (R := fun J H1 => ∀ H2, TabX P gpos H1 H2 → LWish gt tt te (own.map fun (q : Str × Nat) => q.2) σ (fun _ xs H => ∀ p, H p = none → Q (.ref p) (upd H p (.tup xs))) J H2)
    hr TB hcode S.ok hN S.co S.cell S.dot S.h0 hi hs I h fun J H1 H2 a g s5 hR hT hG => ?_)
  refine Calls.spliced_nil ?_
  have hr1 : Room (k + 1) X.A.in1.in1.in1.in1 := ⟨hr.hd, by have := hr.dp; show X.A.depth + _ + _ < _; omega, by have := hr.un; show X.A.units + 1 + 1 + 1 + 1 + _ + _ < _; omega⟩
  have isg : s5.heap.IsGen a g := by
    obtain ⟨s4, fp, it, tn, genv, go, I4, ffp, T, st, hsc, hgen, hgens, hafp, hI⟩ := hG.ex
    exact hgen _ ((hI { X.A with frames := some (genv :: X.stack) } hr.hd rfl).pin (a, go) (List.mem_append_left _ (List.mem_singleton.mpr rfl))).1
  refine call_tuple_col (P := fun vs s' => ∃ (H' : Hp) (S : Addr) (xs : List V), L2.Inv X pins σ H' s' ∧ H' S = some (.lst xs) ∧ (∀ p, H' p = none → Q (.ref p) (upd H' p (.tup xs))) ∧ Vals xs vs) (Heap.IsGen.typeIs isg)
    (fun E => collect_go (A := X.A.in1.in1) (gt := gt) (tt := tt) (te := te) hc hr1 I.ok.frames S.co mono hg ht he hG (hR H2 hT) fun s' H' S xs vs I' q1 q2 q3 => ⟨H', S, xs, I', q1, q2, q3⟩) (fun vs s' ⟨H', S, xs, I', q1, q2, q3⟩ => ?_) fun vs s' ⟨H', S, xs, I', q1, q2, q3⟩ => ?_
  · obtain ⟨hz, _⟩ := I'.hok _ _ q1
    rw [← q3.length]; exact hz
  · obtain ⟨hz, _⟩ := I'.hok _ _ q1
    have I2 : L2.Inv X pins σ (upd H' s'.heap.objs.size (.tup xs)) { s' with heap := s'.heap.push { cls := .type "tuple", data := .seq vs.toArray } } :=
      I'.laid (t' := s'.toks) (fun b o e => Heap.get?_push_of_some _ e) (Nat.le_refl _) (show ObjOk X.prog X.w _ _ _ (.tup xs) from ⟨hz, vs, q3, IsTup.new _ _⟩)
    exact ⟨.ref s'.heap.objs.size, _, I2, rfl, q2 _ (I'.hok.fresh (Nat.le_refl _))⟩
end
end Bk

namespace Bk
open L2 PyProof.Rows PySem.Spec PySem GenW

section
variable {X : Cx} {G : Gl0} {W : WX} {μ : List Addr} {st : Store} {ρ : Lc} {σ : Sl} {H : Hp}
theorem noExn_k {r : R (List D)} {k : List D → Store → R D} (h : ∀ ds st, noExn (k ds st) = k ds st) : (noExn r).bind k = noExn (r.bind k) := by
  cases r with
  | ok ds st => exact (h ds st).symm
  | exn c st => rfl
  | stuck => rfl
/-- the items of a genexp, and what is made of them -/
theorem lw_core {J : It} {vs : List Nat} {cur : Cur} {n : Nat} {g : SG} {t : ST} {f : SE} {Q : VK} {k : List D → Store → R D} {K : Addr → List V → Hp → Prop} (S : Sim G μ st H) (l : Lo G μ ρ σ H) (cu : CurOk G μ H cur J)
    (hk : ∀ ds st, noExn (k ds st) = k ds st) (hK : ∀ ds st, Post G W (Rep G) μ H σ Q (k ds st) → ds.length ≤ big)
    (hF : ∀ p, H p = none → ∀ μ' st' ds xs H', Step μ H μ' H' → Sim G μ' st' H' → H' p = some (.lst xs) → RepL G μ' H' ds xs → p ∉ μ' → Post G W (Rep G) μ H σ Q (k ds st') → K p xs H')
    (p : Post G W (Rep G) μ H σ Q ((noExn (compC g t f (wipeD ρ vs) cur n 0 st)).bind k)) : LWish (xG G vs g) (xT G WF t) (xE G WF f) vs σ K J H := by
  intro S0 hS
  rw [noExn_k hk] at p
  obtain ⟨V, h1, h2⟩ := walk_core (W := W) (σ := σ) (Q := Q) (vs := vs) (g := g) (t := t) (f := f) (n := n) (K := k) (Fin := fun H' => ∃ xs, H' S0 = some (.lst xs) ∧ K S0 xs H') (acc0 := []) (dacc0 := []) hS (step_new (u := .lst []) hS) (S.hide hS trivial)
    (Lo.cary (G := G) (cary_in (step_new (u := .lst []) hS) hS) (l.wipe vs)) upd_same .nil (cu.move (step_new hS) hS) (fun ds st q => hK ds st (by rw [hk] at q; exact q))
    (fun μ' st' ds xs H' sa _ Sa ea ra qa => ⟨xs, ea, hF S0 hS μ' st' ds xs H' sa Sa.show' ea (RepL.cary (G := G) cary_show _ _ ra) (Sa.hid S0 (List.mem_cons_self ..)).1 (by rw [hk] at qa; exact qa)⟩) p
  exact ⟨V, h1, fun i m H hV => (h2 i m H hV).imp id fun ⟨hg, hm, Nx, hn, hq⟩ => ⟨hg, hm, Nx, hn, fun x H' hyy => xG_imp (hq x H' hyy) fun σ3 H5 ⟨kk, q⟩ => ⟨by rw [kk.wipe, wipe_idem], q⟩⟩⟩
theorem mkT_k (ds : List D) (st : Store) : noExn (mkT ds st) = mkT ds st := by
  unfold mkT
  split <;> rfl
/-- tuple(genexp) -/
theorem run_tupl {P : Addr} {q : Str} {gpos : Pos} {vs : List Nat} {fi : SI} {g : SG} {t : ST} {f : SE} {Q : VK} (wc : WCl X W) (hP : (P, q) ∈ G.tabs) (hl : ∀ q, G.isLam q = true → ¬ (q.line = gpos.line ∧ q.col = gpos.col)) (h : tE G W (genL vs fi g t f fun ds st1 => mkT ds st1) σ H Q) :
    tGenT P gpos (tI X G W fi) (xG G vs g) (xT G WF t) (xE G WF f) vs σ H (fun v H1 => ∃ H2, UH X H1 H2 ∧ Q v H2) := by
  obtain ⟨μ, ρ, st, q⟩ := h
  refine ⟨μ, ρ, st, q.sim, q.lo, ?_⟩
  have p : Post G W (Rep G) μ H σ Q ((fi ρ st).bind fun w st1 => unlkR w.lk ((noExn (compC g t f (wipeD ρ vs) w.cur w.n 0 st1)).bind fun ds st1 => mkT ds st1)) := q.post
  cases e : fi ρ st with
  | ok w st1 =>
    rw [e] at p
    intro μ1 H1 J s S cu lk
    obtain ⟨ps, h1, h2, _⟩ := S.tab _ hP
    refine ⟨⟨ps, h1, h2⟩, fun H2 hT => ?_⟩
    obtain ⟨s2, S2⟩ := S.tabx hT hl
    have c2 : CurOk G μ1 H2 w.cur J := ⟨fun h μ' st' H' i hh ⟨H3, s3, hx⟩ S' => cu.run h μ' st' H' i (fun a ha => (hh a ha).imp id fun z => by
      cases e9 : H1 a with
      | none => rfl
      | some o => obtain ⟨o', e'⟩ := s2.there a o e9; rw [z] at e'; cases e') ⟨H3, s2.trans s3, hx⟩ S'⟩
    refine lw_core S2 ((q.lo.step s).step s2) c2 mkT_k (fun ds st hq => ?_) (fun p hp μ' st' ds xs H' sa Sa ea ra hn hq => ?_) (Post.unl (s.trans s2) lk wc p)
    · unfold mkT at hq
      split at hq
      · rename_i hl; exact hl
      · exact hq.elim
    · unfold mkT at hq
      split at hq
      · exact fun p n => hq μ' _ _ (sa.trans (step_new n)) (Sa.new n) (Rep.newT Sa n ra)
      · exact hq.elim
  | exn c st1 => rw [e] at p; exact p
  | stuck => rw [e] at p; exact p
end
end Bk

namespace Bk
open L2 PyProof.Rows PySem.Spec PySem

/-! ## sorted, of ints -/
def insI (x : Int) : List Int → List Int
  | [] => [x]
  | y :: ys => if x ≤ y then x :: y :: ys else y :: insI x ys
def sortI : List Int → List Int
  | [] => []
  | x :: xs => insI x (sortI xs)
theorem insI_perm (x : Int) (l : List Int) : (insI x l).Perm (x :: l) := by
  induction l with
  | nil => exact .refl _
  | cons y ys ih =>
    unfold insI
    split
    · exact .refl _
    · exact (ih.cons y).trans (.swap x y ys)
theorem sortI_perm (l : List Int) : (sortI l).Perm l := by
  induction l with
  | nil => exact .refl _
  | cons x xs ih => exact (insI_perm x _).trans (ih.cons x)
theorem insI_sorted (x : Int) (l : List Int) (h : l.Pairwise (· ≤ ·)) : (insI x l).Pairwise (· ≤ ·) := by
  induction l with
  | nil => exact List.pairwise_singleton _ _
  | cons y ys ih =>
    rw [List.pairwise_cons] at h
    unfold insI
    split
    · rename_i hx
      rw [List.pairwise_cons]
      refine ⟨fun z hz => ?_, List.pairwise_cons.mpr h⟩
      rcases List.mem_cons.mp hz with z1 | z1
      · rw [z1]; exact hx
      · exact Int.le_trans hx (h.1 z z1)
    · rename_i hx
      rw [List.pairwise_cons]
      refine ⟨fun z hz => ?_, ih h.2⟩
      rcases List.mem_cons.mp ((insI_perm x ys).mem_iff.mp hz) with z1 | z1
      · rw [z1]; omega
      · exact h.1 z z1
theorem sortI_sorted (l : List Int) : (sortI l).Pairwise (· ≤ ·) := by
  induction l with
  | nil => exact .nil
  | cons x xs ih => exact insI_sorted x _ ih
theorem sorted_uniq {a b : List Int} (h : a.Perm b) (ha : a.Pairwise (· ≤ ·)) (hb : b.Pairwise (· ≤ ·)) : a = b :=
  h.eq_of_pairwise (fun x y _ _ h1 h2 => Int.le_antisymm h1 h2) ha hb
def intsOf : List D → Option (List Int)
  | [] => some []
  | .int x :: r => (intsOf r).map fun r => x :: r
  | _ => none
section
variable {G : Gl0}
theorem ints_rep {μ : List Addr} {H : Hp} {ds : List D} {xs : List Int} {vs : List V} (e : intsOf ds = some xs) (r : RepL G μ H ds vs) : vs = xs.map V.int := by
  induction ds generalizing xs vs with
  | nil => cases r; cases e; rfl
  | cons d ds ih => cases r with
    | cons h t =>
      cases d with
      | int x =>
        unfold intsOf at e
        cases e2 : intsOf ds with
        | none => rw [e2] at e; cases e
        | some ys =>
          rw [e2] at e
          cases e
          cases h
          rw [ih e2 t]
          rfl
      | _ => cases e
theorem intL_rep {μ : List Addr} {H : Hp} (ns : List Int) : RepL G μ H (ns.map D.int) (ns.map V.int) := by
  induction ns with
  | nil => exact .nil
  | cons n ns ih => exact .cons (.int n) ih
def bSortI : Fn := fun ds st => match ds with
  | [d] => (match (asL st d).bind intsOf with
    | some ns => .ok (.lst ((sortI ns).map D.int)) st
    | none => .stuck)
  | _ => .stuck
theorem cb_sortI {K : PySem.W.Frag} (hK : G.K = K) : CbD G bSortI (rSortedI K) := by
  intro W μ ρ st σ H ds xs Q q r
  unfold bSortI at q
  split at q
  · obtain ⟨x, rfl, r1⟩ := r.one
    split at q
    · rename_i ns e
      obtain ⟨ds, e1, e2⟩ := Option.bind_eq_some_iff.mp e
      obtain ⟨p, vs, rfl, h1, h2⟩ := asL_rep q.sim e1 r1
      have h3 := ints_rep e2 h2
      subst h3
      refine ⟨p, ns, rfl, SqL.of h1, fun ns' p' hp hs n => ?_⟩
      rw [sorted_uniq (hp.trans (sortI_perm ns).symm) hs (sortI_sorted ns)]
      exact q.new n (Rep.newL q.sim n (intL_rep _))
    · exact q.post.elim
  · exact q.post.elim
end
end Bk

namespace Bk
open L2 PyProof.Rows PySem.Spec PySem

/-! ## sorted, of texts (any length) -/
def rSortedSA (K : PySem.W.Frag) : List V → Hp → VK → Prop := fun vs H Q => ∃ (a : Addr) (xs : List Str), vs = [V.ref a] ∧ SqL K H a (xs.map V.str) ∧ ∀ (ys : List Str) (p : Addr), ys.Perm xs → sortedS ys = true → H p = none → Q (.ref p) (upd H p (.lst (ys.map V.str)))
theorem cr_sortedSA {X : Cx} : CallR X (.builtin "sorted") (rSortedSA X.K) := fun pins s σ H vs us Q I r ⟨a, xs, e, hs, q⟩ => by
  subst e
  obtain ⟨its, rv, hl, hz⟩ := I.list hs
  have hz2 : its.length ≤ sizeLine := by rw [← rv.length]; exact hz
  rw [Vals.ref1 r]
  refine PyProof.Rows.sorted_strsAny hl.isList rv.strs hz2 fun out ys h1 h2 h3 => ?_
  obtain ⟨ep, hat⟩ := PyProof.Rows.sortedAll_at s.heap its out
  have hle : (ys.map V.str).length ≤ sizeLine := by rw [List.length_map, h2.length_eq]; rw [List.length_map] at hz; exact hz
  have J := I.laid (a := s.heap.objs.size + 1) (o := .lst (ys.map V.str)) (h' := sortedAll s.heap its out) (t' := s.toks) (fun _ _ => PyProof.Rows.sortedAll_old) (Nat.le_succ _) ⟨hle, out.toList, ep, vals_of_strs h1, hat⟩
  exact ⟨.ref (s.heap.objs.size + 1), _, J, rfl, q ys _ h2 h3 (I.hok.fresh (Nat.le_succ _))⟩
end Bk

namespace Bk
open L2 PyProof.Rows PySem.Spec PySem

/-! ## sorted of what is collected: texts -/
section
variable {prog : Program} {w : World} {A : Around} {E : Value → Shared → Prop} {s : Shared} {x : Value} {P : List Value → Shared → Prop}
theorem call_sorted_col {Q : Value → Shared → Prop} (hcol : ∀ E, wpAny (model prog w) A.in1 (collect x) P E s)
    (h : ∀ vs s', P vs s' → ∃ ss : List Str, StrsAre vs ss ∧ vs.length ≤ sizeLine ∧ ∀ (out : Array Value) (ss' : List Str), StrsAre out.toList ss' → ss'.Perm ss → sortedS ss' = true →
      Q (.ref s'.heap.objs.size) { s' with heap := sortedHeap (s'.heap.push (seqObj "list" vs.toArray 0)) s'.heap.objs.size vs out }) :
    wpAny (model prog w) A (call (.builtin "sorted") [x]) Q E s := by
  refine Calls.call_function_entry kind_sorted plain_sorted entry_sorted (args_sorted1 _) ?_
  unfold Builtin.«sorted»
  refine wpAny_bind (m := checkCount "sorted" 1 1 _) (wpAny_pure (wpAny_bind (wpAny_mono (hcol _) (fun vs s' hp => ?_) fun _ _ z => z)))
  obtain ⟨ss, hS, hz, hq⟩ := h vs s' hp
  refine wpAny_bind (wpAny_newList ?_)
  have hoL : (s'.heap.push (seqObj "list" vs.toArray 0)).get? s'.heap.objs.size = some (seqObj "list" vs.toArray 0) := Heap.get?_push_size _ rfl
  show wpAny _ _ _ _ _ { s' with heap := s'.heap.push (seqObj "list" vs.toArray 0) }
  refine wpAny_bind (wpAny_holding (wpAny_call_entry slot_list_sort ⟨_, hoL, rfl⟩ entry_list_sort (list_sort_treeKAny strKind_oneLt hoL hS.keysOf (fun v₁ v₂ rest e => keyKind_strs (by rw [← e]; exact hS)) hz fun st' a1 a2 => ⟨_, rfl, ?_⟩) (args_list_sort _)))
  obtain ⟨ss', h1, h2, h3⟩ := sorted_out_str hS a1 a2
  exact wpAny_pure ⟨_, rfl, hq _ ss' h1 h2 h3⟩
end
end Bk

namespace Bk
open L2 PyProof.Rows PySem.Spec PySem GenW

/-- sorted(genexp), texts -/
def tGenS (P : Addr) (gpos : Pos) (wi : TI) (g : TG) (tt : TT) (te : TE) (vs : List Nat) : TE := fun σ H Q => wi σ H fun J H1 => (∃ ps : Array Value, H1 P = some (.tbl ps) ∧ TriplesOk ps.toList) ∧ ∀ H2, TabX P gpos H1 H2 → LWish g tt te vs σ (fun _ xs H => ∃ ss : List Str, xs = ss.map V.str ∧ ∀ (ys : List Str) (p : Addr), ys.Perm ss → sortedS ys = true → H p = none → Q (.ref p) (upd H p (.lst (ys.map V.str)))) J H2
section
variable {X : Cx}
theorem pe_sortedG {c P : Addr} {elt tg iter : Expr} {ifs : List Expr} {scope : Scope} {own : List (Str × Nat)} {p pos gpos : Pos} {wi : TI} {gt : TG} {tt : TT} {te : TE} {k : Nat} (hc : X.calm = true) (hr : Room (k + 2) X.A) (hgl : Gl X "sorted") (hm : X.mg "sorted" = none) (hv : bootBuiltins "sorted" = some (.builtin "sorted")) (TB : GxR.TabB X.base X.mg c P) (hcode : X.env.code = .ref c) (S : GScp X scope own) (hN : X.N.Nodup)
    (mono : ∀ {v σ H} {Q Q' : Sl → Hp → Prop}, gt v σ H Q → (∀ σ H, Q σ H → Q' σ H) → gt v σ H Q') (hi : PI X tg iter wi) (hs : ∀ v, genFold iter X.env v = pure v)
    (hg : ∀ (A : Around) (s : Shared) (H : Hp) (genv : Env) (fp : List Addr) (a : Addr) (o : Obj), genv.scope = scope → Room k A → PG (gcx X A s H scope genv fp a o) tg gt)
    (ht : ∀ (A : Around) (s : Shared) (H : Hp) (genv : Env) (fp : List Addr) (a : Addr) (o : Obj), genv.scope = scope → Room k A → PTs (gcx X A s H scope genv fp a o) ifs tt)
    (he : ∀ (A : Around) (s : Shared) (H : Hp) (genv : Env) (fp : List Addr) (a : Addr) (o : Obj), genv.scope = scope → Room k A → PE (gcx X A s H scope genv fp a o) elt te) :
    PE X (.Call (.Name "sorted" p) [.GeneratorExp elt [⟨tg, iter, ifs, 0⟩] scope gpos] [] pos) (tGenS P gpos wi gt tt te (own.map (·.2))) := by
  refine ⟨fun pins s σ H Q I h => ?_⟩
  have hst : starEach [.GeneratorExp elt [⟨tg, iter, ifs, 0⟩] scope gpos] X.env = (false, eval (.GeneratorExp elt [⟨tg, iter, ifs, 0⟩] scope gpos) X.env) :: starEach [] X.env := rfl
  refine wpAny_Call_Name_kw (ld_blt I hgl hm hv (PyProof.Rows.callWith_builtin1 ?_ hst rfl))
  rw [hst]
  show wpAny _ _ (spliced ((false, eval (.GeneratorExp elt [⟨tg, iter, ifs, 0⟩] scope gpos) X.env) :: backTo pos (starEach [] X.env))) _ _ s
  refine Calls.spliced_cons (gen_make (R := fun J H1 => ∀ H2, TabX P gpos H1 H2 → LWish gt tt te (own.map fun (q : Str × Nat) => q.2) σ (fun _ xs H => ∃ ss : List Str, xs = ss.map V.str ∧ ∀ (ys : List Str) (p : Addr), ys.Perm ss → sortedS ys = true → H p = none → Q (.ref p) (upd H p (.lst (ys.map V.str)))) J H2)
    hr TB hcode S.ok hN S.co S.cell S.dot S.h0 hi hs I h fun J H1 H2 a g s5 hR hT hG => ?_)
  refine Calls.spliced_nil ?_
  have hr1 : Room (k + 1) X.A.in1.in1.in1 := ⟨hr.hd, by have := hr.dp; show X.A.depth + _ + _ < _; omega, by have := hr.un; show X.A.units + 1 + 1 + 1 + _ + _ < _; omega⟩
  refine call_sorted_col (P := fun vs s' => ∃ (H' : Hp) (S : Addr) (xs : List V), L2.Inv X pins σ H' s' ∧ H' S = some (.lst xs) ∧ (∃ ss : List Str, xs = ss.map V.str ∧ ∀ (ys : List Str) (p : Addr), ys.Perm ss → sortedS ys = true → H' p = none → Q (.ref p) (upd H' p (.lst (ys.map V.str)))) ∧ Vals xs vs)
    (fun E => collect_go (A := X.A.in1) (gt := gt) (tt := tt) (te := te) hc hr1 I.ok.frames S.co mono hg ht he hG (hR H2 hT) fun s' H' S xs vs I' q1 q2 q3 => ⟨H', S, xs, I', q1, q2, q3⟩) fun vs s' ⟨H', S, xs, I', q1, ⟨ss, e, q2⟩, q3⟩ => ?_
  subst e
  obtain ⟨hz, _⟩ := I'.hok _ _ q1
  have hz2 : vs.length ≤ sizeLine := by rw [← q3.length]; exact hz
  refine ⟨ss, q3.strs, hz2, fun out ys h1 h2 h3 => ?_⟩
  have hoL : (s'.heap.push (seqObj "list" vs.toArray 0)).get? s'.heap.objs.size = some (seqObj "list" vs.toArray 0) := Heap.get?_push_size _ rfl
  obtain ⟨ep, hat⟩ := PyProof.Rows.sortedHeap_at (out := out) hoL
  have hle : (ys.map V.str).length ≤ sizeLine := by rw [List.length_map, h2.length_eq]; rw [List.length_map] at hz; exact hz
  have kp : ∀ b o, s'.heap.get? b = some o → (sortedHeap (s'.heap.push (seqObj "list" vs.toArray 0)) s'.heap.objs.size vs out).get? b = some o := fun b o e => by
    have hlt := Heap.lt_size e
    rw [PyProof.Rows.sortedHeap_old (Nat.ne_of_lt hlt) (by rw [Heap.size_push]; exact Nat.lt_succ_of_lt hlt)]
    exact Heap.get?_push_of_some _ e
  have J := I'.laid (a := s'.heap.objs.size) (o := .lst (ys.map V.str)) (t' := s'.toks) kp (Nat.le_refl _) ⟨hle, out.toList, ep, vals_of_strs h1, hat⟩
  exact ⟨.ref s'.heap.objs.size, _, J, rfl, q2 ys _ h2 h3 (I'.hok.fresh (Nat.le_refl _))⟩
end
end Bk

namespace Bk
open L2 PyProof.Rows PySem.Spec PySem

/-! ## texts in their order -/
def ltS (a b : Str) : Bool := ltCps a.cps.toList b.cps.toList
theorem ltS_iff {a b : Str} : ltS a b = true ↔ a.cps.toList < b.cps.toList := by unfold ltS; rw [ltCps_eq]; exact decide_eq_true_iff
theorem ltS_no {a b : Str} : ltS a b = false ↔ b.cps.toList ≤ a.cps.toList := by
  rw [← Bool.not_eq_true, ltS_iff]
  exact List.not_lt
theorem ltS_anti {a b : Str} (h : ltS b a = false) (k : ltS a b = false) : a = b := by
  have e := List.le_antisymm (ltS_no.mp h) (ltS_no.mp k)
  cases a; cases b
  congr 1
  exact Array.toList_inj.mp e
theorem ltS_tr {a b c : Str} (h : ltS b a = false) (k : ltS c b = false) : ltS c a = false := ltS_no.mpr (List.le_trans (ltS_no.mp h) (ltS_no.mp k))
def insS (x : Str) : List Str → List Str
  | [] => [x]
  | y :: ys => if ltS y x then y :: insS x ys else x :: y :: ys
def sortS : List Str → List Str
  | [] => []
  | x :: xs => insS x (sortS xs)
theorem insS_perm (x : Str) (l : List Str) : (insS x l).Perm (x :: l) := by
  induction l with
  | nil => exact .refl _
  | cons y ys ih =>
    unfold insS
    split
    · exact (ih.cons y).trans (.swap x y ys)
    · exact .refl _
theorem sortS_perm (l : List Str) : (sortS l).Perm l := by
  induction l with
  | nil => exact .refl _
  | cons x xs ih => exact (insS_perm x _).trans (ih.cons x)
abbrev UpS (l : List Str) : Prop := l.Pairwise fun a b => ltS b a = false
theorem insS_up (x : Str) (l : List Str) (h : UpS l) : UpS (insS x l) := by
  induction l with
  | nil => exact List.pairwise_singleton _ _
  | cons y ys ih =>
    rw [UpS, List.pairwise_cons] at h
    unfold insS
    split
    · rename_i hx
      refine List.pairwise_cons.mpr ⟨fun z hz => ?_, ih h.2⟩
      rcases List.mem_cons.mp ((insS_perm x ys).mem_iff.mp hz) with z1 | z1
      · rw [z1]
        cases q : ltS x y with
        | false => rfl
        | true =>
          have h1 := ltS_iff.mp hx
          have h2 := ltS_iff.mp q
          exact absurd (List.lt_trans h1 h2) (List.lt_irrefl _)
      · exact h.1 z z1
    · rename_i hx
      have hx : ltS y x = false := by simpa using hx
      refine List.pairwise_cons.mpr ⟨fun z hz => ?_, List.pairwise_cons.mpr h⟩
      rcases List.mem_cons.mp hz with z1 | z1
      · rw [z1]; exact hx
      · exact ltS_tr hx (h.1 z z1)
theorem sortS_up (l : List Str) : UpS (sortS l) := by
  induction l with
  | nil => exact .nil
  | cons x xs ih => exact insS_up x _ ih
theorem rising_up (p : Str) (l : List Str) (h : risingS p l = true) : UpS (p :: l) := by
  induction l generalizing p with
  | nil => exact List.pairwise_singleton _ _
  | cons x r ih =>
    have h : (!ltS x p && risingS x r) = true := h
    rw [Bool.and_eq_true] at h
    have h1 : ltS x p = false := by simpa using h.1
    have h2 := ih x h.2
    refine List.pairwise_cons.mpr ⟨fun z hz => ?_, h2⟩
    rcases List.mem_cons.mp hz with z1 | z1
    · rw [z1]; exact h1
    · exact ltS_tr h1 ((List.pairwise_cons.mp h2).1 z z1)
theorem sortedS_up {l : List Str} (h : sortedS l = true) : UpS l := by
  cases l with
  | nil => exact .nil
  | cons x r => exact rising_up x r h
theorem sortS_uniq {ys ss : List Str} (hp : ys.Perm ss) (h : sortedS ys = true) : ys = sortS ss :=
  (hp.trans (sortS_perm ss).symm).eq_of_pairwise (fun x y _ _ h1 h2 => ltS_anti h1 h2) (sortedS_up h) (sortS_up ss)
end Bk

namespace Bk
open L2 PyProof.Rows PySem.Spec PySem GenW

section
variable {X : Cx} {G : Gl0} {W : WX} {μ : List Addr} {st : Store} {ρ : Lc} {σ : Sl} {H : Hp}
def kSortS (ds : List D) (st : Store) : R D := match strsOf ds with
  | some ss => if ds.length ≤ big then .ok (.lst ((sortS ss).map D.str)) st else .stuck
  | none => .stuck
theorem kSortS_k (ds : List D) (st : Store) : noExn (kSortS ds st) = kSortS ds st := by
  unfold kSortS
  split
  · split <;> rfl
  · rfl
theorem strL_rep (ss : List Str) : RepL G μ H (ss.map D.str) (ss.map V.str) := by
  induction ss with
  | nil => exact .nil
  | cons n ns ih => exact .cons (.str n) ih
/-- sorted(genexp) of texts -/
theorem run_srt {P : Addr} {q : Str} {gpos : Pos} {vs : List Nat} {fi : SI} {g : SG} {t : ST} {f : SE} {Q : VK} (wc : WCl X W) (hP : (P, q) ∈ G.tabs) (hl : ∀ q, G.isLam q = true → ¬ (q.line = gpos.line ∧ q.col = gpos.col)) (h : tE G W (genL vs fi g t f kSortS) σ H Q) :
    tGenS P gpos (tI X G W fi) (xG G vs g) (xT G WF t) (xE G WF f) vs σ H (fun v H1 => ∃ H2, UH X H1 H2 ∧ Q v H2) := by
  obtain ⟨μ, ρ, st, q⟩ := h
  refine ⟨μ, ρ, st, q.sim, q.lo, ?_⟩
  have p : Post G W (Rep G) μ H σ Q ((fi ρ st).bind fun w st1 => unlkR w.lk ((noExn (compC g t f (wipeD ρ vs) w.cur w.n 0 st1)).bind kSortS)) := q.post
  cases e : fi ρ st with
  | ok w st1 =>
    rw [e] at p
    intro μ1 H1 J s S cu lk
    obtain ⟨ps, h1, h2, _⟩ := S.tab _ hP
    refine ⟨⟨ps, h1, h2⟩, fun H2 hT => ?_⟩
    obtain ⟨s2, S2⟩ := S.tabx hT hl
    have c2 : CurOk G μ1 H2 w.cur J := ⟨fun h μ' st' H' i hh ⟨H3, s3, hx⟩ S' => cu.run h μ' st' H' i (fun a ha => (hh a ha).imp id fun z => by
      cases e9 : H1 a with
      | none => rfl
      | some o => obtain ⟨o', e'⟩ := s2.there a o e9; rw [z] at e'; cases e') ⟨H3, s2.trans s3, hx⟩ S'⟩
    refine lw_core S2 ((q.lo.step s).step s2) c2 kSortS_k (fun ds st hq => ?_) (fun p hp μ' st' ds xs H' sa Sa ea ra hn hq => ?_) (Post.unl (s.trans s2) lk wc p)
    · unfold kSortS at hq
      split at hq
      · split at hq
        · rename_i hl; exact hl
        · exact hq.elim
      · exact hq.elim
    · unfold kSortS at hq
      split at hq
      · rename_i ss es
        split at hq
        · refine ⟨ss, strs_rep es ra, fun ys p2 hp2 hs n => ?_⟩
          rw [sortS_uniq hp2 hs]
          exact hq μ' _ _ (sa.trans (step_new n)) (Sa.new n) (Rep.newL Sa n (strL_rep _))
        · exact hq.elim
      · exact hq.elim
  | exn c st1 => rw [e] at p; exact p
  | stuck => rw [e] at p; exact p
end
end Bk

namespace Bk
open L2 PyProof.Rows PySem.Spec PySem

/-! ## sorted(..) of a list, a tuple, a dict's keys: ints or texts -/
section
variable {prog : Program} {w : World} {A : Around} {E : Value → Shared → Prop} {s : Shared} {x : Value} {P : List Value → Shared → Prop}
theorem call_sorted_colI {Q : Value → Shared → Prop} (hcol : ∀ E, wpAny (model prog w) A.in1 (collect x) P E s)
    (h : ∀ vs s', P vs s' → ∃ ns : List Int, IntsAre vs ns ∧ vs.length ≤ sizeLine ∧ ∀ (out : Array Value) (ns' : List Int), IntsAre out.toList ns' → ns'.Perm ns → ns'.Pairwise (· ≤ ·) →
      Q (.ref s'.heap.objs.size) { s' with heap := sortedHeap (s'.heap.push (seqObj "list" vs.toArray 0)) s'.heap.objs.size vs out }) :
    wpAny (model prog w) A (call (.builtin "sorted") [x]) Q E s := by
  refine Calls.call_function_entry kind_sorted plain_sorted entry_sorted (args_sorted1 _) ?_
  unfold Builtin.«sorted»
  refine wpAny_bind (m := checkCount "sorted" 1 1 _) (wpAny_pure (wpAny_bind (wpAny_mono (hcol _) (fun vs s' hp => ?_) fun _ _ z => z)))
  obtain ⟨ns, hI, hz, hq⟩ := h vs s' hp
  refine wpAny_bind (wpAny_newList ?_)
  have at0 : (s'.heap.push (seqObj "list" vs.toArray 0)).get? s'.heap.objs.size = some (seqObj "list" vs.toArray 0) := Heap.get?_push_size _ rfl
  show wpAny _ _ _ _ _ { s' with heap := s'.heap.push (seqObj "list" vs.toArray 0) }
  refine wpAny_bind (wpAny_holding (wpAny_call_entry slot_list_sort ⟨_, at0, rfl⟩ entry_list_sort (list_sort_treeKAny intKind_oneLt at0 hI.keysOfInt (fun v₁ v₂ rest e => keyKind_ints (by rw [← e]; exact hI)) hz fun st' a1 a2 => ⟨_, rfl, ?_⟩) (args_list_sort _)))
  obtain ⟨ns', h1, h2, h3⟩ := sorted_out hI a1 (sortedTo_of_int a2)
  exact wpAny_pure ⟨_, rfl, hq _ ns' h1 h2 h3⟩
end
/-- what is walked as a whole -/
def ColV (K : PySem.W.Frag) (a : Addr) (vs : List V) (H : Hp) : Prop := SqL K H a vs ∨ SqT K H a vs ∨ ∃ kvs : List (Key × V), Rd H a (.dK kvs) ∧ vs = kvs.map fun p => kV p.1
section
variable {X : Cx} {pins : List (Addr × Obj)} {σ : Sl} {H : Hp} {s : Shared}
theorem col_ok {a : Addr} {vs : List V} {A : Around} (I : L2.Inv X pins σ H s) (hA : A.handled = none) (hz : vs.length ≤ sizeLine) (h : ColV X.K a vs H) :
    ∀ E, wpAny (model X.prog X.w) A (collect (.ref a)) (fun us s' => Vals vs us ∧ L2.Inv X pins σ H s') E s := by
  intro E
  rcases h with h | h | ⟨kvs, h, e⟩
  · obtain ⟨its, rv, hl, hz⟩ := I.list h
    obtain ⟨o, ho, hc, n, hd⟩ := hl.isList
    exact wpAny_collect_seq a (.inl rfl) ho hc hd (fun h' k => ⟨by simpa using rv, I.kept (t' := s.toks) k⟩) (by rw [List.size_toArray, ← rv.length]; exact hz)
  · obtain ⟨its, rv, hl, hz⟩ := I.tuple h
    obtain ⟨o, ho, hc, n, hd⟩ := hl
    exact wpAny_collect_seq a (.inr rfl) ho hc hd (fun h' k => ⟨by simpa using rv, I.kept (t' := s.toks) k⟩) (by rw [List.size_toArray, ← rv.length]; exact hz)
  · subst e
    obtain ⟨z, lo, ws, rel, dd⟩ := dk_rd I.hok h
    obtain ⟨ep, hat⟩ := dd.dictAt
    have hl : ws.length = kvs.length := rel.length.symm
    refine PySem.W.kdu_collect (PySem.W.kdl_dict (knd := mixKind X.prog X.w) (kvs := ws) (ep := ep) lo) hA hat (by rw [hl]; exact z) fun h' tk acc hk hacc => ⟨?_, I.kept hk⟩
    have ek : (kvs.map fun kv => kV kv.1) = ws.map fun p => kV p.1 := by
      have e := congrArg (List.map kV) rel.keys
      rw [List.map_map, List.map_map] at e
      exact e
    rw [ek]
    exact L2.keys_at (by rw [Array.length_toList]; exact hacc.1) fun j v e => hacc.2 j v (by rw [← Array.getElem?_toList]; exact e)
theorem vals_of_ints : ∀ {us : List Value} {ns : List Int}, IntsAre us ns → Vals (ns.map V.int) us
  | _, _, h => vals_ints h
/-- sorted: ints, or texts -/
def rSortX (K : PySem.W.Frag) : List V → Hp → VK → Prop := fun xs H Q => ∃ a vs, xs = [.ref a] ∧ ColV K a vs H ∧ vs.length ≤ sizeLine ∧
  ((∃ ns, vs = ns.map V.int ∧ ∀ p, H p = none → Q (.ref p) (upd H p (.lst ((sortI ns).map V.int)))) ∨ (∃ ss, vs = ss.map V.str ∧ ∀ p, H p = none → Q (.ref p) (upd H p (.lst ((sortS ss).map V.str)))))
theorem cr_sortX (hc : X.calm = true) : CallR X (.builtin "sorted") (rSortX X.K) := by
  intro pins s σ H xs us Q I r ⟨a, vs, e, hcol, hz, h⟩
  subst e
  rw [Vals.ref1 r]
  have fin : ∀ {vs : List Value} {s' : Shared} {ys : List V} {out : Array Value}, L2.Inv X pins σ H s' → ys.length ≤ sizeLine → Vals ys out.toList → (∀ p, H p = none → Q (.ref p) (upd H p (.lst ys))) →
      EP X pins σ Q (.ref s'.heap.objs.size) { s' with heap := sortedHeap (s'.heap.push (seqObj "list" vs.toArray 0)) s'.heap.objs.size vs out } := fun {vs s' ys out} I' hl hv q => by
    have hoL : (s'.heap.push (seqObj "list" vs.toArray 0)).get? s'.heap.objs.size = some (seqObj "list" vs.toArray 0) := Heap.get?_push_size _ rfl
    obtain ⟨ep, hat⟩ := PyProof.Rows.sortedHeap_at (out := out) hoL
    have kp : ∀ b o, s'.heap.get? b = some o → (sortedHeap (s'.heap.push (seqObj "list" vs.toArray 0)) s'.heap.objs.size vs out).get? b = some o := fun b o e => by
      have hlt := Heap.lt_size e
      rw [PyProof.Rows.sortedHeap_old (Nat.ne_of_lt hlt) (by rw [Heap.size_push]; exact Nat.lt_succ_of_lt hlt)]
      exact Heap.get?_push_of_some _ e
    exact ⟨.ref s'.heap.objs.size, _, I'.laid (a := s'.heap.objs.size) (o := .lst ys) (t' := s'.toks) kp (Nat.le_refl _) ⟨hl, out.toList, ep, hv, hat⟩, rfl, q _ (I'.hok.fresh (Nat.le_refl _))⟩
  rcases h with ⟨ns, e, q⟩ | ⟨ss, e, q⟩
  · subst e
    refine call_sorted_colI (P := fun us s' => Vals (ns.map V.int) us ∧ L2.Inv X pins σ H s') (col_ok I (I.ok.hd hc) hz hcol) fun us s' ⟨hv, I'⟩ => ?_
    refine ⟨ns, hv.ints, by rw [← hv.length]; exact hz, fun out ns' h1 h2 h3 => ?_⟩
    have e : ns' = sortI ns := sorted_uniq (h2.trans (sortI_perm ns).symm) h3 (sortI_sorted ns)
    subst e
    exact fin I' (by rw [List.length_map, h2.length_eq]; rw [List.length_map] at hz; exact hz) (vals_of_ints h1) q
  · subst e
    refine call_sorted_col (P := fun us s' => Vals (ss.map V.str) us ∧ L2.Inv X pins σ H s') (col_ok I (I.ok.hd hc) hz hcol) fun us s' ⟨hv, I'⟩ => ?_
    refine ⟨ss, hv.strs, by rw [← hv.length]; exact hz, fun out ss' h1 h2 h3 => ?_⟩
    have e := sortS_uniq h2 h3
    subst e
    exact fin I' (by rw [List.length_map, h2.length_eq]; rw [List.length_map] at hz; exact hz) (vals_of_strs h1) q
end
section
variable {G : Gl0}
/-- the items of a thing that stands still -/
def itemsX (st : Store) (d : D) : Option (List D) := match d with
  | .dK kvs => some (kvs.map fun p => keyD p.1)
  | .ref l => (match st[l]? with
    | some (.lst ds) => some ds
    | some (.dK _ kvs) => some (kvs.map fun p => keyD p.1)
    | _ => none)
  | d => seqOf st d
def bSortX (ds : List D) (st : Store) : R D := match ds with
  | [d] => (match itemsX st d with
    | some xs => if xs.length ≤ big then (match intsOf xs with
      | some ns => .ok (.lst ((sortI ns).map D.int)) st
      | none => (match strsOf xs with
        | some ss => .ok (.lst ((sortS ss).map D.str)) st
        | none => .stuck)) else .stuck
    | none => .stuck)
  | _ => .stuck
theorem keys_rep {μ : List Addr} {H : Hp} {kvs : List (Key × D)} {vs : List (Key × V)} (r : RepP G μ H kvs vs) : RepL G μ H (kvs.map fun p => keyD p.1) (vs.map fun p => kV p.1) := by
  induction kvs generalizing vs with
  | nil => cases r; exact .nil
  | cons p kvs ih => cases r with
    | cons h r =>
      refine .cons ?_ (ih r)
      rename_i k d v vs
      cases k with
      | inl i => exact .int i
      | inr x => exact .str x
theorem items_col {μ : List Addr} {st : Store} {H : Hp} {d : D} {x : V} {ds : List D} (S : Sim G μ st H) (e : itemsX st d = some ds) (r : Rep G μ H d x) : ∃ a vs, x = .ref a ∧ ColV G.K a vs H ∧ RepL G μ H ds vs := by
  have sq : ∀ d, Rep G μ H d x → seqOf st d = some ds → ∃ a vs, x = .ref a ∧ ColV G.K a vs H ∧ RepL G μ H ds vs := fun d r e => by
    unfold seqOf at e
    split at e
    · rename_i ds' e2
      cases e
      obtain ⟨p, vs, rfl, h1, h2⟩ := asTup_rep e2 r
      exact ⟨p, vs, rfl, .inr (.inl h1), h2⟩
    · obtain ⟨p, vs, rfl, h1, h2⟩ := asL_rep S e r
      exact ⟨p, vs, rfl, .inl (.inl (.inl h1)), h2⟩
  unfold itemsX at e
  split at e
  · cases e
    cases r with
    | dK h0 h1 h2 => exact ⟨_, _, rfl, .inr (.inr ⟨_, h1, rfl⟩), keys_rep h2⟩
  · rename_i l
    cases r with
    | ref hl =>
      split at e
      · rename_i ds' e2
        cases e
        obtain ⟨vs, h1, h2⟩ := S.obj _ _ _ e2 hl
        exact ⟨_, vs, rfl, .inl (.inl (.inl h1)), h2⟩
      · rename_i lk kvs e2
        cases e
        obtain ⟨vs, h1, h3, h2⟩ := S.obj _ _ _ e2 hl
        cases lk with
        | false => exact ⟨_, _, rfl, .inr (.inr ⟨_, .inl (h1 rfl), rfl⟩), keys_rep h2⟩
        | true => obtain ⟨o, e3⟩ := h3 rfl; exact ⟨_, _, rfl, .inr (.inr ⟨_, .inr ⟨o, e3⟩, rfl⟩), keys_rep h2⟩
      · cases e
  · exact sq _ r e
theorem cb_sortX {K : PySem.W.Frag} (hK : G.K = K) : CbD G bSortX (rSortX K) := by
  subst hK
  intro W μ ρ st σ H ds xs Q q r
  unfold bSortX at q
  split at q
  · rename_i d
    cases r with
    | cons h r => cases r with
      | nil =>
        split at q
        · rename_i ds' e
          obtain ⟨a, vs, rfl, hcol, hv⟩ := items_col q.sim e h
          split at q
          · rename_i hz
            refine ⟨a, vs, rfl, hcol, by rw [← hv.len]; exact hz, ?_⟩
            split at q
            · rename_i ns e2
              exact .inl ⟨ns, ints_rep e2 hv, fun p n => q.new n (Rep.newL q.sim n (intL_rep _))⟩
            · split at q
              · rename_i ss e2
                exact .inr ⟨ss, strs_rep e2 hv, fun p n => q.new n (Rep.newL q.sim n (strL_rep _))⟩
              · exact q.post.elim
          · exact q.post.elim
        · exact q.post.elim
  · exact q.post.elim
theorem ok_sorted {X : Cx} {W : WX} (hK : G.K = X.K) (hc : X.calm = true) (hg : Gl X "sorted") (hm : X.mg "sorted" = none) : CallOk X G W "sorted" bSortX :=
  ok_callB (cr_sortX hc) (cb_sortX hK) hg hm (by decide +kernel) (by decide) (by decide)
/-! ### tuple, sum, min, max -/
def bTupS : Fn := fun ds st => match ds with
  | [.tup xs] => .ok (.tup xs) st
  | [.ktup xs] => .ok (.ktup xs) st
  | [d] => (match asL st d with
    | some xs => .ok (.tup xs) st
    | none => .stuck)
  | _ => .stuck
theorem cb_tupS {K : PySem.W.Frag} (hK : G.K = K) : CbD G bTupS (fun xs H Q => ∃ p ys, xs = [.ref p] ∧ ((SqL K H p ys ∧ ∀ l, H l = none → Q (.ref l) (upd H l (.tup ys))) ∨ (SqT K H p ys ∧ Q (.ref p) H))) := by
  intro W μ ρ st σ H ds xs Q q r
  subst hK
  unfold bTupS at q
  split at q
  · obtain ⟨x, rfl, r1⟩ := r.one
    cases r1 with
    | tup h0 h1 h2 => exact ⟨_, _, rfl, .inr ⟨.inl (.inl h1), q.val (.tup h0 h1 h2)⟩⟩
  · obtain ⟨x, rfl, r1⟩ := r.one
    cases r1 with
    | ktup h1 h2 => exact ⟨_, _, rfl, .inr ⟨.inr h1, q.val (.ktup h1 h2)⟩⟩
  · obtain ⟨x, rfl, r1⟩ := r.one
    split at q
    · rename_i ds e
      obtain ⟨p, vs, rfl, h1, h2⟩ := asL_rep q.sim e r1
      exact ⟨p, vs, rfl, .inl ⟨SqL.of h1, fun l n => q.new n (Rep.newT q.sim n h2)⟩⟩
    · exact q.post.elim
  · exact q.post.elim
theorem ok_tuple {X : Cx} {W : WX} (hK : G.K = X.K) (hg : Gl X "tuple") (hm : X.mg "tuple" = none) : CallOk X G W "tuple" bTupS :=
  ok_callTy call_tuple_of (cb_tupS hK) hg hm (by decide +kernel) (by decide) (by decide)
def bSumI : Fn := fun ds st => match ds with
  | [d] => (match (asL st d).bind intsOf with
    | some ns => .ok (.int ns.sum) st
    | none => .stuck)
  | _ => .stuck
theorem cb_sumI {K : PySem.W.Frag} (hK : G.K = K) : CbD G bSumI (rSum K) := by
  intro W μ ρ st σ H ds xs Q q r
  subst hK
  unfold bSumI at q
  split at q
  · obtain ⟨x, rfl, r1⟩ := r.one
    split at q
    · rename_i ns e
      obtain ⟨ds, e1, e2⟩ := Option.bind_eq_some_iff.mp e
      obtain ⟨p, vs, rfl, h1, h2⟩ := asL_rep q.sim e1 r1
      have := ints_rep e2 h2
      subst this
      exact ⟨p, ns, rfl, SqL.of h1, q.val (.int _)⟩
    · exact q.post.elim
  · exact q.post.elim
theorem ok_sum {X : Cx} {W : WX} (hK : G.K = X.K) (hc : X.calm = true) (hg : Gl X "sum") (hm : X.mg "sum" = none) : CallOk X G W "sum" bSumI :=
  ok_callB (cr_sum hc) (cb_sumI hK) hg hm (by decide +kernel) (by decide) (by decide)
def minL : Int → List Int → Int
  | m, [] => m
  | m, x :: xs => minL (if x < m then x else m) xs
def maxL : Int → List Int → Int
  | m, [] => m
  | m, x :: xs => maxL (if m < x then x else m) xs
theorem minL_le : ∀ (xs : List Int) (m : Int), minL m xs ≤ m ∧ (∀ x ∈ xs, minL m xs ≤ x) ∧ (minL m xs = m ∨ minL m xs ∈ xs)
  | [], m => ⟨Int.le_refl _, fun x h => by (cases h), .inl rfl⟩
  | x :: xs, m => by
    obtain ⟨h1, h2, h3⟩ := minL_le xs (if x < m then x else m)
    unfold minL
    refine ⟨Int.le_trans h1 (by split <;> omega), fun y hy => ?_, ?_⟩
    · rcases List.mem_cons.mp hy with rfl | hy
      · exact Int.le_trans h1 (by split <;> omega)
      · exact h2 y hy
    · rcases h3 with h3 | h3
      · rw [h3]; split
        · exact .inr (List.mem_cons_self ..)
        · exact .inl rfl
      · exact .inr (List.mem_cons_of_mem _ h3)
theorem maxL_le : ∀ (xs : List Int) (m : Int), m ≤ maxL m xs ∧ (∀ x ∈ xs, x ≤ maxL m xs) ∧ (maxL m xs = m ∨ maxL m xs ∈ xs)
  | [], m => ⟨Int.le_refl _, fun x h => by (cases h), .inl rfl⟩
  | x :: xs, m => by
    obtain ⟨h1, h2, h3⟩ := maxL_le xs (if m < x then x else m)
    unfold maxL
    refine ⟨Int.le_trans (by split <;> omega) h1, fun y hy => ?_, ?_⟩
    · rcases List.mem_cons.mp hy with rfl | hy
      · exact Int.le_trans (by split <;> omega) h1
      · exact h2 y hy
    · rcases h3 with h3 | h3
      · rw [h3]; split
        · exact .inr (List.mem_cons_self ..)
        · exact .inl rfl
      · exact .inr (List.mem_cons_of_mem _ h3)
def bMinI : Fn := fun ds st => match ds with
  | [.int a, .int b] => .ok (.int (if b < a then b else a)) st
  | [d] => (match (asL st d).bind intsOf with
    | some (n :: ns) => .ok (.int (minL n ns)) st
    | _ => .stuck)
  | _ => .stuck
def bMaxI : Fn := fun ds st => match ds with
  | [.int a, .int b] => .ok (.int (if b > a then b else a)) st
  | [d] => (match (asL st d).bind intsOf with
    | some (n :: ns) => .ok (.int (maxL n ns)) st
    | _ => .stuck)
  | _ => .stuck
theorem cb_minI {K : PySem.W.Frag} (hK : G.K = K) : CbD G bMinI (fun xs H Q => (∃ i j, xs = [.int i, .int j] ∧ Q (.int (if j < i then j else i)) H) ∨ rMin K xs H Q) := by
  intro W μ ρ st σ H ds xs Q q r
  subst hK
  unfold bMinI at q
  split at q
  · cases r with
    | cons h r => cases r with
      | cons h2 r =>
        cases r; cases h; cases h2
        exact .inl ⟨_, _, rfl, q.val (.int _)⟩
  · obtain ⟨x, rfl, r1⟩ := r.one
    split at q
    · rename_i n ns e
      obtain ⟨ds, e1, e2⟩ := Option.bind_eq_some_iff.mp e
      obtain ⟨p, vs, rfl, h1, h2⟩ := asL_rep q.sim e1 r1
      have := ints_rep e2 h2
      subst this
      refine .inr ⟨p, n :: ns, rfl, SqL.of h1, Nat.succ_pos _, fun m hm hl => ?_⟩
      obtain ⟨k1, k2, k3⟩ := minL_le ns n
      have e : m = minL n ns := by
        have a1 : m ≤ minL n ns := by
          rcases k3 with k3 | k3
          · rw [k3]; exact hl _ (List.mem_cons_self ..)
          · exact hl _ (List.mem_cons_of_mem _ k3)
        have a2 : minL n ns ≤ m := by
          rcases List.mem_cons.mp hm with h | h
          · rw [h]; exact k1
          · exact k2 _ h
        omega
      rw [e]
      exact q.val (.int _)
    · exact q.post.elim
  · exact q.post.elim
theorem cb_maxI {K : PySem.W.Frag} (hK : G.K = K) : CbD G bMaxI (fun xs H Q => (∃ i j, xs = [.int i, .int j] ∧ Q (.int (if j > i then j else i)) H) ∨ rMax K xs H Q) := by
  intro W μ ρ st σ H ds xs Q q r
  subst hK
  unfold bMaxI at q
  split at q
  · cases r with
    | cons h r => cases r with
      | cons h2 r =>
        cases r; cases h; cases h2
        exact .inl ⟨_, _, rfl, q.val (.int _)⟩
  · obtain ⟨x, rfl, r1⟩ := r.one
    split at q
    · rename_i n ns e
      obtain ⟨ds, e1, e2⟩ := Option.bind_eq_some_iff.mp e
      obtain ⟨p, vs, rfl, h1, h2⟩ := asL_rep q.sim e1 r1
      have := ints_rep e2 h2
      subst this
      refine .inr ⟨p, n :: ns, rfl, SqL.of h1, Nat.succ_pos _, fun m hm hl => ?_⟩
      obtain ⟨k1, k2, k3⟩ := maxL_le ns n
      have e : m = maxL n ns := by
        have a1 : maxL n ns ≤ m := by
          rcases k3 with k3 | k3
          · rw [k3]; exact hl _ (List.mem_cons_self ..)
          · exact hl _ (List.mem_cons_of_mem _ k3)
        have a2 : m ≤ maxL n ns := by
          rcases List.mem_cons.mp hm with h | h
          · rw [h]; exact k1
          · exact k2 _ h
        omega
      rw [e]
      exact q.val (.int _)
    · exact q.post.elim
  · exact q.post.elim
theorem ok_min {X : Cx} {W : WX} (hK : G.K = X.K) (hc : X.calm = true) (hg : Gl X "min") (hm : X.mg "min" = none) : CallOk X G W "min" bMinI :=
  ok_callB (CallR.or (call_min2 hc) (cr_min hc)) (cb_minI hK) hg hm (by decide +kernel) (by decide) (by decide)
theorem ok_max {X : Cx} {W : WX} (hK : G.K = X.K) (hc : X.calm = true) (hg : Gl X "max") (hm : X.mg "max" = none) : CallOk X G W "max" bMaxI :=
  ok_callB (CallR.or (call_max2 hc) (cr_max hc)) (cb_maxI hK) hg hm (by decide +kernel) (by decide) (by decide)
end
end Bk

namespace Bk
open L2 PyProof.Rows PySem.Spec PySem

/-! ## What a program means -/
/-- a scope: its names, which cells are its own, how deep lambdas may lie -/
structure Scp where
  sc : Scope
  fn : Str → Bool
  lam : Nat
  cd : Bool
  top : Bool
def Scp.rel (s : Scp) (scope : Scope) : Scp := ⟨relSc s.sc scope, fun x => scope.names.lookup x == some .cell, s.lam, s.cd, false⟩
/-- a generator's own scope: two levels deeper -/
def Scp.gen (s : Scp) (scope : Scope) : Scp := ⟨scope, fun x => scope.names.lookup x == some .cell, s.lam - 2, false, false⟩
def genOk (S : SEnv) (s : Scp) (scope : Scope) (pos : Pos) : Bool := s.cd && decide (2 ≤ s.lam) && !scope.isCoroutine && (scope.names.all fun y => y.2 != .cell) && (scope.names.lookup (".0" : Str) == some NameKind.local) && !S.N.contains (".0" : Str) && (S.lamP.all fun l => !(l.line == pos.line && l.col == pos.col))
def visB (sc : Scope) (x : Str) : Bool := sc.names.lookup x == some .local || sc.names.lookup x == some .cell || sc.names.lookup x == some .free
def dbgB (x : Str) : Bool := (x == ("__debug__" : Str)) || (x == ("__classdict__" : Str)) || (x == ("__name__" : Str))
def nmOk (S : SEnv) (s : Scp) (x : Str) : Bool := visB s.sc x && !dbgB x && decide (S.N[S.N.idxOf x]? = some x)
def glOk (s : Scp) (x : Str) : Bool := isGlob s.sc x && !dbgB x
def tgOk (S : SEnv) (s : Scp) (x : Str) : Bool := (s.sc.names.lookup x == some .local || (s.sc.names.lookup x == some .cell && s.fn x)) && decide (S.N[S.N.idxOf x]? = some x)
def set' : Expr → Bool
  | .Set .. => true
  | _ => false
/-- a display that a genexp's loop would fold -/
def disp' : Expr → Bool
  | .Set .. => true
  | .List .. => true
  | _ => false
/-- no super() -/
def plainO : Expr → Bool
  | .Call _ _ _ _ => false
  | _ => true
def callO : Expr → Bool
  | .Call _ [] _ _ => false
  | _ => true
def gd {α : Type} (b : Bool) (f : Lc → Store → R α) : Lc → Store → R α := fun ρ st => if b then f ρ st else .stuck
def testsOf (d : Expr → ST) : List Expr → ST
  | [] => fun _ st => .ok true st
  | [e] => d e
  | _ => stuckE
def noPar (p : Arguments) : Bool := p.posonlyargs.isEmpty && p.args.isEmpty && p.vararg.isNone && p.kwonlyargs.isEmpty && p.kw_defaults.isEmpty && p.kwarg.isNone && p.defaults.isEmpty
def lamOk (S : SEnv) (s : Scp) (params : Arguments) (lsc : Scope) (p : Pos) : Bool := s.top && noPar params && S.lamP.contains p && LamX.lamSB s.sc lsc
/-- a lambda handed to the def that calls it -/
def sTold1 (txt : Str) (caught : Nat → Bool) (run : Scope → Expr → SE) (ρ : Lc) (st : Store) : D → R D
  | .clo lsc body => told txt caught (run lsc body ρ st)
  | _ => .stuck
def sTold (txt : Str) (caught : Nat → Bool) (run : Scope → Expr → SE) (f : SE) : SE := fun ρ st => (f ρ st).bind fun d st1 => sTold1 txt caught run ρ st1 d
/-- told(f) in a block: the lambda's body runs at the maker's slots -/
def sToldB (own : List Nat) (txt : Str) (caught : Nat → Bool) (run : Scope → Expr → SE) (f : SE) : SE := fun ρ st => (f ρ st).bind fun d st1 => sTold1 txt caught run (wipeD ρ own) st1 d
/-- told(f) != txt -/
def badT : Expr → Option (Str × Str × Str)
  | .Compare (.Call (.Name t _) [.Name f _] [] _) [.NotEq] [.Constant (.str x) _ _] _ => some (t, f, x)
  | _ => none
def intC : Expr → Option Int
  | .Constant (.int k) _ _ => some k
  | _ => none
def nameC : Expr → Option Str
  | .Name f _ => some f
  | _ => none
def isTold : GV → Bool
  | .told => true
  | _ => false
def badForm (S : SEnv) (s : Scp) (elt tg : Expr) (ifs : List Expr) : Option (Int × Str × Str) := match ifs with
  | [c] => (badT c).bind fun (t, f, x) => (intC elt).bind fun k => (nameC tg).bind fun g => if f = g ∧ glOk s t = true ∧ isTold (S.glob t) = true then some (k, f, x) else none
  | _ => none
/-- the lambda's own scope -/
def Scp.lamS (s : Scp) (lsc : Scope) : Scp := ⟨lsc, fun _ => false, s.lam - 2, false, false⟩
def ownS (S : SEnv) (scope : Scope) : List (Str × Nat) := ownOf S.N scope
def inOwn (S : SEnv) (scope : Scope) (tg : Expr) : Bool := (slotsOf S.N tg).all fun i => ((ownS S scope).map (·.2)).contains i
def headG (S : SEnv) (s : Scp) : Expr → SG
  | .Name x _ => if tgOk S s x then gName' (S.N.idxOf x) else fun _ _ => none
  | _ => fun _ _ => none
mutual
def denE (S : SEnv) : Nat → Scp → Expr → SE
  | 0, _, _ => stuckE
  | n + 1, sc, e => match e with
    | .Constant (.int i) _ _ => sVal (.int i)
    | .Constant (.str x) _ _ => sVal (.str x)
    | .Constant (.bool b) _ _ => sVal (.bl b)
    | .Constant .none _ _ => sVal .non
    | .Name x _ => if glOk sc x then (match S.glob x with | .val d => sVal d | _ => stuckE) else gd (nmOk S sc x) (sVar (S.N.idxOf x))
    | .BinOp a op b _ => (match binF op with | some f => sBin f (denE S n sc a) (denE S n sc b) | none => stuckE)
    | .UnaryOp .USub a _ => sUn dNeg (denE S n sc a)
    | .UnaryOp .Not a _ => sNotT (denE S n sc a)
    | .BoolOp .And [a] _ => denE S n sc a
    | .BoolOp .And (a :: b :: r) p => sAndT (denE S n sc a) (denE S n sc (.BoolOp .And (b :: r) p))
    | .BoolOp .Or [a] _ => denE S n sc a
    | .BoolOp .Or (a :: b :: r) p => sOr (denE S n sc a) (denE S n sc (.BoolOp .Or (b :: r) p))
    | .IfExp c a b _ => sIf (denT S n sc c) (denE S n sc a) (denE S n sc b)
    | .Compare a [op] [b] _ => gd (!set' b) (sBin (cmpF S.kc op) (denE S n sc a) (denE S n sc b))
    | .Compare a [o1, o2] [b, c] _ => gd (!set' c) (sChain (cmpF S.kc o1) (cmpF S.kc o2) (denE S n sc a) (denE S n sc b) (denE S n sc c))
    | .List es p => fun ρ st => (denA S n sc es ρ st).bind fun ds st1 => mkL (S.mu p) ds st1
    | .Tuple es _ _ => fun ρ st => (denA S n sc es ρ st).bind fun ds st1 => mkT ds st1
    | .Dict [] [] p => sDictC (S.mu p) []
    | .Dict ks vs p => gd (ks.all (·.isSome) && decide (ks.length = vs.length) && decide (ks.length ≤ 15) && !ks.isEmpty) (match konstK ks vs with
      | some kvs => sDictC (S.mu p) kvs
      | none => gd (decide (ks.length < n)) (sDictM (denD S n sc ks vs)))
    | .Subscript a (.Slice none none (some (.UnaryOp .USub (.Constant (.int 1) _ _) _)) _) p => sUn (dRev (S.mu p)) (denE S n sc a)
    | .Subscript a (.Slice lo hi none _) p => sSlice (S.mu p) (denE S n sc a) (denP S n sc lo) (denP S n sc hi)
    | .Subscript a i _ => gd (!slice' i) (sBin (dIx S.kc) (denE S n sc a) (denE S n sc i))
    | .Lambda params body lsc p => gd (lamOk S sc params lsc p) (sVal (.clo lsc body))
    | .ListComp elt [⟨tg, it, ifs, 0⟩] scope p => (match badForm S (sc.rel scope) elt tg ifs with
      | some (k, f, x) => gd (sc.top && decide (2 ≤ sc.lam) && blkC S.N sc.sc scope (ownS S scope) && inOwn S scope tg && !set' it && nmOk S (sc.rel scope) f)
        (sComp (S.mu p) ((ownS S scope).map (·.2)) (denI S n sc tg it) (denG S n (sc.rel scope) tg)
          (tVal (sBin (cmpF S.kc .NotEq) (sToldB ((ownS S scope).map (·.2)) S.toldS S.caught (fun lsc body => denE S n (sc.lamS lsc) body) (sVar (S.N.idxOf f))) (sVal (.str x)))) (sVal (.int k)))
      | none => gd (blkC S.N sc.sc scope (ownS S scope) && inOwn S scope tg && !set' it) (sComp (S.mu p) ((ownS S scope).map (·.2)) (denI S n sc tg it) (denG S n (sc.rel scope) tg) (testsOf (denT S n (sc.rel scope)) ifs) (denE S n (sc.rel scope) elt)))
    | .ListComp elt [⟨tg, it, [], 0⟩, ⟨tg2, it2, ifs, 0⟩] scope p => gd (blkC S.N sc.sc scope (ownS S scope) && inOwn S scope tg && inOwn S scope tg2 && !set' it && !set' it2)
        (sComp2 (S.mu p) ((ownS S scope).map (·.2)) (slotsOf S.N tg2) (denI S n sc tg it) (denG S n (sc.rel scope) tg) (denI S n (sc.rel scope) tg2 it2) (denG S n (sc.rel scope) tg2) (testsOf (denT S n (sc.rel scope)) ifs) (denE S n (sc.rel scope) elt))
    | .Call (.Name f _) [.GeneratorExp elt [⟨tg, it, ifs, 0⟩] scope gp] [] _ =>
      gd (glOk sc f && blkC S.N sc.sc scope (ownS S scope) && inOwn S scope tg && !disp' it && genOk S sc scope gp) (match S.glob f with
        | .any => sAny true ((ownS S scope).map (·.2)) (denI S n sc tg it) (denG S n (sc.gen scope) tg) (testsOf (denT S n (sc.gen scope)) ifs) (denE S n (sc.gen scope) elt)
        | .all => sAny false ((ownS S scope).map (·.2)) (denI S n sc tg it) (denG S n (sc.gen scope) tg) (testsOf (denT S n (sc.gen scope)) ifs) (denE S n (sc.gen scope) elt)
        | .srt => genL ((ownS S scope).map (·.2)) (denI S n sc tg it) (denG S n (sc.gen scope) tg) (testsOf (denT S n (sc.gen scope)) ifs) (denE S n (sc.gen scope) elt) kSortS
        | .tupl => genL ((ownS S scope).map (·.2)) (denI S n sc tg it) (denG S n (sc.gen scope) tg) (testsOf (denT S n (sc.gen scope)) ifs) (denE S n (sc.gen scope) elt) fun ds st1 => mkT ds st1
        | _ => stuckE)
    | .Call (.Name f _) [a] [] _ => gd (glOk sc f && !star' a) (match S.glob f with
        | .blt b => sCall b (denA S n sc [a])
        | .fn b => sCall b (denA S n sc [a])
        | .srt => sCall bSortX (denA S n sc [a])
        | .tupl => sCall bTupS (denA S n sc [a])
        | .sum => sCall bSumI (denA S n sc [a])
        | .mini => sCall bMinI (denA S n sc [a])
        | .told => gd (sc.top && decide (2 ≤ sc.lam)) (sTold S.toldS S.caught (fun lsc body => denE S n (sc.lamS lsc) body) (denE S n sc a))
        | _ => stuckE)
    | .Call (.Name f _) args [] _ => gd (glOk sc f && !args.any star') (match S.glob f with
        | .blt b => gd (!args.isEmpty) (sCall b (denA S n sc args))
        | .fn b => sCall b (denA S n sc args)
        | _ => stuckE)
    | .Call (.Attribute o m ap) (a :: args) [] p => gd (callO o && decide ((a :: args).length < 30) && (ap.endLine == p.line) && !(a :: args).any star') (sMeth m (denE S n sc o) (denA S n sc (a :: args)))
    | _ => stuckE
def denT (S : SEnv) : Nat → Scp → Expr → ST
  | 0, _, _ => stuckE
  | n + 1, sc, e => match e with
    | .UnaryOp .Not a _ => tNot' (denT S n sc a)
    | .BoolOp .And [a] _ => denT S n sc a
    | .BoolOp .And (a :: b :: r) p => tAnd' (denT S n sc a) (denT S n sc (.BoolOp .And (b :: r) p))
    | .BoolOp .Or [a] _ => denT S n sc a
    | .BoolOp .Or (a :: b :: r) p => tOr' (denT S n sc a) (denT S n sc (.BoolOp .Or (b :: r) p))
    | .IfExp .. => stuckE
    | .Compare a [op] [b] _ => gd (!set' b) (tVal (sBin (cmpF S.kc op) (denE S n sc a) (denE S n sc b)))
    | .Compare a [o1, o2] [b, c] _ => gd (!set' c) (tVal (sChain (cmpF S.kc o1) (cmpF S.kc o2) (denE S n sc a) (denE S n sc b) (denE S n sc c)))
    | .Compare .. => stuckE
    | .BoolOp .. => stuckE
    | e => tVal (denE S n sc e)
def denA (S : SEnv) : Nat → Scp → List Expr → SA
  | 0, _, _ => stuckE
  | _ + 1, _, [] => sNil
  | n + 1, sc, e :: es => gd (!star' e) (sCons (denE S n sc e) (denA S n sc es))
def denD (S : SEnv) : Nat → Scp → List (Option Expr) → List Expr → Lc → Store → R (List (Key × D))
  | 0, _, _, _ => stuckE
  | _ + 1, _, [], [] => fun _ st => .ok [] st
  | n + 1, sc, some k :: ks, v :: vs => fun ρ st => (denE S n sc k ρ st).bind fun kd st1 => (denE S n sc v ρ st1).bind fun d st2 => match keyOf kd with
    | some k => (denD S n sc ks vs ρ st2).bind fun r st3 => .ok ((k, d) :: r) st3
    | none => .stuck
  | _ + 1, _, _, _ => stuckE
def denP (S : SEnv) : Nat → Scp → Option Expr → SP
  | 0, _, _ => stuckE
  | _ + 1, _, none => pNone
  | n + 1, sc, some e => pSome (denE S n sc e)
def denI (S : SEnv) : Nat → Scp → Expr → Expr → SI
  | 0, _, _, _ => stuckE
  | n + 1, sc, tg, e => match e with
    | .Call (.Name f p) [a] [] pos => (match (if glOk sc f then S.glob f else .none) with
      | .rng => gd (!star' a) (iRng1' (denE S n sc a))
      | .enm => (match tg with | .Tuple .. => gd (!star' a) (iEnum (denE S n sc a)) | _ => stuckE)
      | _ => iVal (denE S n sc (.Call (.Name f p) [a] [] pos)))
    | .Call (.Name f p) [a, b] [] pos => (match (if glOk sc f then S.glob f else .none) with
      | .rng => gd (!star' a && !star' b) (iRng2' (denE S n sc a) (denE S n sc b))
      | .zip => (match tg with | .Tuple .. => gd (!star' a && !star' b) (iZip (denE S n sc a) (denE S n sc b)) | _ => stuckE)
      | _ => iVal (denE S n sc (.Call (.Name f p) [a, b] [] pos)))
    | .Call (.Name f p) [a, b, c] [] pos => (match (if glOk sc f then S.glob f else .none) with
      | .rng => gd (!star' a && !star' b && !star' c) (iRng3' (denE S n sc a) (denE S n sc b) (denE S n sc c))
      | _ => iVal (denE S n sc (.Call (.Name f p) [a, b, c] [] pos)))
    | e => iVal (denE S n sc e)
def denG (S : SEnv) : Nat → Scp → Expr → SG
  | 0, _, _ => fun _ _ => none
  | n + 1, sc, e => match e with
    | .Name x _ => if tgOk S sc x then gName' (S.N.idxOf x) else fun _ _ => none
    | .Tuple es _ _ => gTup' (denGs S n sc es)
    | _ => fun _ _ => none
def denGs (S : SEnv) : Nat → Scp → List Expr → List SG
  | 0, _, es => es.map fun _ => fun _ _ => none
  | _ + 1, _, [] => []
  | n + 1, sc, e :: es => headG S sc e :: denGs S n sc es
end
end Bk

namespace Bk
open L2 PyProof.Rows PySem.Spec PySem

/-! ## Displays of dicts -/
section
variable {X : Cx} {G : Gl0} {W : WX} {μ : List Addr} {st : Store} {ρ : Lc} {σ : Sl} {H : Hp}
theorem map_repP {ds : List (Key × D)} {vs : List (Key × V)} {k : Key} {d : D} {v : V} (r : RepP G μ H ds vs) (rd : Rep G μ H d v) : RepP G μ H (ds.map (fun kv => if kv.1 = k then (kv.1, d) else kv)) (vs.map (fun kv => if kv.1 = k then (kv.1, v) else kv)) := by
  induction ds generalizing vs with
  | nil => cases r; exact .nil
  | cons p ds ih => cases r with
    | cons h t =>
      rw [List.map_cons, List.map_cons]
      dsimp only
      split
      · exact .cons rd (ih t)
      · exact .cons h (ih t)
theorem RepP.app {ds es : List (Key × D)} {vs us : List (Key × V)} (r : RepP G μ H ds vs) (k : RepP G μ H es us) : RepP G μ H (ds ++ es) (vs ++ us) := by
  induction ds generalizing vs with
  | nil => cases r; exact k
  | cons p ds ih => cases r with
    | cons h t => exact .cons h (ih t)
theorem any_repP {ds : List (Key × D)} {vs : List (Key × V)} {k : Key} (r : RepP G μ H ds vs) : ds.any (fun kv => decide (kv.1 = k)) = vs.any (fun kv => decide (kv.1 = k)) := by
  induction ds generalizing vs with
  | nil => cases r; rfl
  | cons p ds ih => cases r with
    | cons h t => rw [List.any_cons, List.any_cons, ih t]
theorem put_rep {ds : List (Key × D)} {vs : List (Key × V)} {k : Key} {d : D} {v : V} (r : RepP G μ H ds vs) (rd : Rep G μ H d v) : RepP G μ H (putD ds k d) (putK vs k v) := by
  unfold putD putK
  rw [any_repP r]
  split
  · exact map_repP r rd
  · exact r.app (.cons rd .nil)
theorem merge_rep {ds es : List (Key × D)} {vs us : List (Key × V)} (r : RepP G μ H ds vs) (k : RepP G μ H es us) : RepP G μ H (mergeD ds es) (mergeK vs us) := by
  unfold mergeD mergeK
  induction es generalizing ds vs us with
  | nil => cases k; exact r
  | cons e es ih => cases k with
    | cons h t =>
      rw [List.foldl_cons, List.foldl_cons]
      exact ih (put_rep r h) t
/-- constants -/
def konstV : D → V
  | .int i => .int i
  | .str x => .str x
  | .bl b => .bl b
  | _ => .non
theorem konst_pe {e : Expr} {d : D} (h : konst e = some d) : PE X e (tC (konstV d)) ∧ ∀ G μ H, Rep G μ H d (konstV d) := by
  unfold konst at h
  split at h
  · cases h; exact ⟨pe_int, fun _ _ _ => .int _⟩
  · cases h; exact ⟨pe_str, fun _ _ _ => .str _⟩
  · cases h; exact ⟨pe_bl, fun _ _ _ => .bl _⟩
  · cases h; exact ⟨pe_non, fun _ _ _ => .non⟩
  · cases h
theorem konstK_pps {pos : Pos} {ks : List (Option Expr)} {vs : List Expr} {kvs : List (Key × D)} (h : konstK ks vs = some kvs) : ∃ trs us, PPs X pos ks vs trs ∧ (∀ G μ H, RepP G μ H kvs us) ∧ us.length = ks.length ∧ ∀ σ H Q, Q (us.map fun kv => (kV kv.1, kv.2)) H → tPairs trs σ H Q := by
  induction ks generalizing vs kvs with
  | nil => cases vs with
    | nil => cases h; exact ⟨[], [], pps_nil, fun _ _ _ => .nil, rfl, fun σ H Q q => q⟩
    | cons v vs => cases h
  | cons k ks ih =>
    cases k with
    | none => cases vs <;> cases h
    | some k =>
      cases vs with
      | nil => cases h
      | cons v vs =>
        unfold konstK at h
        obtain ⟨kd, h1, h⟩ := Option.bind_eq_some_iff.mp h
        obtain ⟨kk, h2, h⟩ := Option.bind_eq_some_iff.mp h
        obtain ⟨d, h3, h⟩ := Option.bind_eq_some_iff.mp h
        obtain ⟨r, h4, h⟩ := Option.map_eq_some_iff.mp h
        subst h
        obtain ⟨trs, us, q1, q2, q3, q4⟩ := ih h4
        obtain ⟨a1, a2⟩ := konst_pe (X := X) h1
        obtain ⟨b1, b2⟩ := konst_pe (X := X) h3
        have hk : konstV kd = kV kk := keyOf_rep h2 (a2 ⟨default, [], fun _ => false, fun _ => 0, fun _ => 0, fun _ _ _ _ _ => True, default, fun _ => 0, fun _ => [], []⟩ [] (fun _ => none))
        exact ⟨(tC (konstV kd), tC (konstV d)) :: trs, (kk, konstV d) :: us, pps_cons a1 b1 q1, fun G μ H => .cons (b2 G μ H) (q2 G μ H), by simp [q3], fun σ H Q q => q4 σ H _ (by rw [hk]; exact q)⟩
theorem t_dictC {m : Bool} {ks : List (Option Expr)} {vs : List Expr} {pos : Pos} {kvs : List (Key × D)} (h : konstK ks vs = some kvs) (hall : ks.all (·.isSome) = true) (hl : ks.length = vs.length) (h15 : ks.length ≤ 15) (h0 : ks ≠ []) : PE X (.Dict ks vs pos) (tE G W (sDictC m kvs)) := by
  obtain ⟨trs, us, q1, q2, q3, q4⟩ := konstK_pps (X := X) (pos := pos) h
  refine PEimp (pe_disp q1 hall hl h0 h15) fun σ H Q ⟨μ, ρ, st, q⟩ p n => q4 σ _ _ ⟨upd_same, us, rfl, by omega, ?_⟩
  have e : upd (upd H p (.dK [])) p (.dK (mergeK [] us)) = upd H p (.dK (mergeK [] us)) := by
    funext a
    by_cases z : a = p
    · rw [z, upd_same, upd_same]
    · rw [upd_ne z, upd_ne z, upd_ne z]
  rw [e]
  have q : Run G W (Rep G) μ ρ st σ H Q (sDictC m kvs ρ st) := q
  unfold sDictC at q
  cases m with
  | false => exact q.new n (.dK (q.sim.fz n) (.inl upd_same) (merge_rep .nil (q2 G μ _)))
  | true =>
    refine q.newM n ⟨_, fun _ => upd_same, fun z => (by cases z), merge_rep .nil (q2 G _ _)⟩ (.ref ?_)
    rw [← q.sim.len]; simp
theorem t_dict0 {m : Bool} {pos : Pos} : PE X (.Dict [] [] pos) (tE G W (sDictC m [])) :=
  PEimp pe_dnewK fun σ H Q ⟨μ, ρ, st, q⟩ p n => by
    have q : Run G W (Rep G) μ ρ st σ H Q (sDictC m [] ρ st) := q
    unfold sDictC at q
    cases m with
    | false => exact q.new n (.dK (q.sim.fz n) (.inl upd_same) .nil)
    | true =>
      refine q.newM n ⟨_, fun _ => upd_same, fun z => (by cases z), .nil⟩ (.ref ?_)
      rw [← q.sim.len]; simp
/-- pairs, in the state where the dict lies empty -/
def trsOf (S : SEnv) (G : Gl0) (W : WX) (s : Scp) : Nat → List (Option Expr) → List Expr → List (TE × TE)
  | n + 1, some k :: ks, v :: vs => (tE G W (denE S n s k), tE G W (denE S n s v)) :: trsOf S G W s n ks vs
  | _, _, _ => []
theorem trs_imp {S : SEnv} {s : Scp} {n : Nat} {ks : List (Option Expr)} {vs : List Expr} {Q Q' : List (V × V) → Hp → Prop} (i : ∀ ps H, Q ps H → Q' ps H) (h : tPairs (trsOf S G W s n ks vs) σ H Q) : tPairs (trsOf S G W s n ks vs) σ H Q' := by
  induction n generalizing ks vs H Q Q' with
  | zero => unfold trsOf at h ⊢; exact i _ _ h
  | succ n ih =>
    cases ks with
    | nil => unfold trsOf at h ⊢; exact i _ _ h
    | cons k ks => cases k with
      | none => unfold trsOf at h ⊢; exact i _ _ h
      | some k => cases vs with
        | nil => unfold trsOf at h ⊢; exact i _ _ h
        | cons v vs =>
          obtain ⟨μ, ρ, st, q⟩ := h
          exact ⟨μ, ρ, st, q.imp fun x H1 ⟨μ1, ρ1, st1, q1⟩ => ⟨μ1, ρ1, st1, q1.imp fun y H2 q2 => ih (fun ps H3 q3 => i _ _ q3) q2⟩⟩
theorem trs_run {S : SEnv} {s : Scp} {n : Nat} {ks : List (Option Expr)} {vs : List Expr} {Q : List (Key × V) → Hp → Prop} (q : Run G W (RepP G) μ ρ st σ H Q (denD S n s ks vs ρ st)) :
    tPairs (trsOf S G W s n ks vs) σ H fun ps H' => ∃ kvs : List (Key × V), ps = kvs.map (fun kv => (kV kv.1, kv.2)) ∧ kvs.length = ks.length ∧ Q kvs H' := by
  induction n generalizing ks vs μ st H Q with
  | zero => rw [denD] at q; exact q.post.elim
  | succ n ih =>
    cases ks with
    | nil => cases vs with
      | nil =>
        rw [denD] at q
        exact ⟨[], rfl, rfl, q.val .nil⟩
      | cons v vs => exact (q.post : False).elim
    | cons k ks => cases k with
      | none => exact (q.post : False).elim
      | some k => cases vs with
        | nil => exact (q.post : False).elim
        | cons v vs =>
          rw [denD] at q
          refine ⟨μ, ρ, st, (Run.bind q).imp fun x H1 ⟨μ1, a, st1, s1, ra, q1⟩ => ⟨μ1, ρ, st1, (Run.bind q1).imp fun y H2 ⟨μ2, b, st2, s2, rb, q2⟩ => ?_⟩⟩
          cases ek : keyOf a with
          | none => simp only [ek] at q2; exact q2.post.elim
          | some kk =>
            simp only [ek] at q2
            have hx : x = kV kk := keyOf_rep ek ra
            have := ih (ks := ks) (vs := vs) ((Run.bind (rp := RepP G) q2))
            refine trs_imp (fun ps H3 h3 => ?_) this
            obtain ⟨kvs, e1, e2, μ3, r, st3, s3, rr, q3⟩ := h3
            subst e1
            exact ⟨(kk, y) :: kvs, by rw [hx]; rfl, by simp [e2], q3.val (.cons (rb.step s3 _ _) rr)⟩
theorem trs_pps {S : SEnv} {s : Scp} {n : Nat} {pos : Pos} {ks : List (Option Expr)} {vs : List Expr} (he : ∀ m, m < n → ∀ x, PE X x (tE G W (denE S m s x))) (hl : ks.length = vs.length) (hall : ks.all (·.isSome) = true) (hn : ks.length < n) : PPs X pos ks vs (trsOf S G W s n ks vs) := by
  induction n generalizing ks vs with
  | zero => omega
  | succ n ih =>
    cases ks with
    | nil => cases vs with
      | nil => unfold trsOf; exact pps_nil
      | cons v vs => cases hl
    | cons k ks => cases vs with
      | nil => cases hl
      | cons v vs =>
        cases k with
        | none => simp at hall
        | some k =>
          simp only [List.length_cons] at hl hn
          exact pps_cons (he n (Nat.lt_succ_self n) k) (he n (Nat.lt_succ_self n) v) (ih (fun m hm => he m (by omega)) (by omega) (by simpa using hall) (by omega))
/-- it is laid, its pairs are evaluated, it is filled -/
theorem t_dictM {S : SEnv} {s : Scp} {n : Nat} {pos : Pos} {ks : List (Option Expr)} {vs : List Expr} (h : PPs X pos ks vs (trsOf S G W s n ks vs)) (hall : ks.all (·.isSome) = true) (hl : ks.length = vs.length) (h15 : ks.length ≤ 15) (h0 : ks ≠ []) :
    PE X (.Dict ks vs pos) (tE G W (sDictM (denD S n s ks vs))) := by
  refine PEimp (pe_disp h hall hl h0 h15) fun σ H Q ⟨μ, ρ, st, q⟩ p n' => ?_
  have q : Run G W (Rep G) μ ρ st σ H Q (sDictM (denD S n s ks vs) ρ st) := q
  have s0 : Step μ H (μ ++ [p]) (upd H p (.dK [])) := step_newM n'
  have S0 : Sim G (μ ++ [p]) (st ++ [.dK false []]) (upd H p (.dK [])) := q.sim.newM n' ⟨[], fun _ => upd_same, fun z => (by cases z), .nil⟩
  have q1 : Run G W (RepP G) (μ ++ [p]) ρ (st ++ [.dK false []]) σ (upd H p (.dK [])) (fun us H2 => ∃ μ2 kvs st2, Step (μ ++ [p]) (upd H p (.dK [])) μ2 H2 ∧ RepP G μ2 H2 kvs us ∧ Run G W (Rep G) μ2 ρ st2 σ H2 Q (match st2[st.length]? with
      | some (.dK false []) => .ok (.ref st.length) (List.set st2 st.length (.dK false (mergeD [] kvs)))
      | _ => .stuck)) (denD S n s ks vs ρ (st ++ [.dK false []])) :=
    Run.bind ⟨S0, q.lo.step s0, q.post.shift s0⟩
  refine trs_imp (fun ps H2 h2 => ?_) (trs_run q1)
  obtain ⟨us, e1, e2, μ2, kvs, st2, s2, rr, q2⟩ := h2
  have hat : (μ ++ [p])[st.length]? = some p := by rw [← q.sim.len]; simp
  split at q2
  · rename_i e3
    obtain ⟨ws, h1, _, h3⟩ := q2.sim.obj _ _ _ e3 (s2.at hat)
    cases h3
    have h1 := h1 rfl
    refine ⟨h1, us, e1, by omega, ?_⟩
    have hn : ∀ o u', H2 p ≠ some (.frz o u') := fun o u' z => by rw [h1] at z; cases z
    exact q2.put (s2.at hat) hn ⟨_, fun _ => upd_same, fun z => (by cases z), (merge_rep .nil rr).step (step_put (List.mem_of_getElem? (s2.at hat)) hn) _ _⟩ (.ref (s2.at hat))
  · exact q2.post.elim
end
end Bk

namespace Bk
open L2 PyProof.Rows PySem.Spec PySem

/-! ## Lambdas -/
theorem noPar_eq {p : Arguments} (h : noPar p = true) : p = ⟨[], [], none, [], [], none, []⟩ := by
  obtain ⟨a, b, c, d, e, f, g⟩ := p
  simp only [noPar, Bool.and_eq_true, List.isEmpty_iff, Option.isNone_iff_eq_none] at h
  obtain ⟨⟨⟨⟨⟨⟨h1, h2⟩, h3⟩, h4⟩, h5⟩, h6⟩, h7⟩ := h
  subst h1 h2 h3 h4 h5 h6 h7
  rfl
/-- the object of a lambda that was made in a frame -/
def lamCL (env : Env) (sc : Scope) (e : Expr) (a c : Addr) : Heap → Prop := fun h => LamX.LamS env.scope sc ∧ ∃ params pm ctv, noPar params = true ∧ h.get? a = some (PySem.W.kla_obj "<lambda>" (env.qual ++ "<lambda>") params e sc (cloFrom env.cells sc.names []) pm c ctv)
section
variable {X : Cx} {G : Gl0} {W : WX} {μ : List Addr} {st : Store} {ρ : Lc} {σ : Sl} {H : Hp}
theorem upd_comm {a b : Addr} {o u : HO} (h : a ≠ b) : upd (upd H a o) b u = upd (upd H b u) a o := by
  funext z
  unfold upd
  by_cases z1 : z = a
  · subst z1; simp [h]
  · by_cases z2 : z = b
    · subst z2; simp [z1]
    · simp [z1, z2]
/-- one more code object in a table -/
theorem Sim.tabl {P c : Addr} {q : Str} {pos : Pos} {ps : Array Value} (S : Sim G μ st H) (e : H P = some (.tbl ps)) (n : H c = none) (ht : TriplesOk ps.toList) (hu : ∀ p ∈ G.tabs, p.1 = P → p.2 = q) :
    Step μ H μ (upd (upd H P (.tbl (ps ++ #[rawInt pos.line, rawInt pos.col, .ref c]))) c (LamX.CodeO c q)) ∧ Sim G μ st (upd (upd H P (.tbl (ps ++ #[rawInt pos.line, rawInt pos.col, .ref c]))) c (LamX.CodeO c q)) := by
  have hPc : P ≠ c := ne_of_none e n
  rw [upd_comm hPc]
  have s1 : Step μ H μ (upd H c (LamX.CodeO c q)) := step_new n
  have S1 := S.new (u := LamX.CodeO c q) n
  have e1 : upd H c (LamX.CodeO c q) P = some (.tbl ps) := by rw [upd_ne hPc]; exact e
  have s2 := step_tab (μ := μ) (u := .tbl (ps ++ #[rawInt pos.line, rawInt pos.col, .ref c])) e1 (fun _ _ z => nomatch z)
  have nP : ∀ a (o : HO), upd H c (LamX.CodeO c q) a = some o → (∀ qs, o ≠ .tbl qs) → a ≠ P := fun a o e' n z => by subst z; rw [e1] at e'; cases e'; exact n ps rfl
  refine ⟨s1.trans s2, S1.len, S1.nd, fun l o a h1 h2 => ?_, fun p hp => ?_, fun a ha => ?_⟩
  · have ho := S1.obj l o a h1 h2
    obtain ⟨u, e2, lu⟩ := ho.some
    exact ho.step s2 (upd_ne (nP a u e2 fun qs z => by subst z; exact lu))
  · obtain ⟨qs, h1, h2, h3⟩ := S1.tab p hp
    by_cases z : p.1 = P
    · rw [z, e1] at h1
      cases h1
      refine ⟨_, by rw [z, upd_same], ?_, fun pos' cv hc hi => ?_⟩
      · simpa using PySem.TriplesOk_snoc _ _ _ _ ht
      · have hc' : codeAmong pos' (ps.toList ++ [rawInt pos.line, rawInt pos.col, .ref c]) = some cv := by simpa using hc
        rcases LamX.among_app ps.toList h2 hc' with h4 | h4
        · obtain ⟨c', k1, k2⟩ := h3 pos' cv h4 hi
          exact ⟨c', k1, by rw [upd_ne (nP _ _ k2 fun qs z => by unfold LamX.CodeO at z; cases z)]; exact k2⟩
        · exact ⟨c, h4, by rw [upd_ne hPc.symm, upd_same, hu p hp z]⟩
    · refine ⟨qs, by rw [upd_ne z]; exact h1, h2, fun pos' cv hc hi => ?_⟩
      obtain ⟨c', k1, k2⟩ := h3 pos' cv hc hi
      exact ⟨c', k1, by rw [upd_ne (nP _ _ k2 fun qs z => by unfold LamX.CodeO at z; cases z)]; exact k2⟩
  · obtain ⟨h1, u, h2, h3⟩ := S1.hid a ha
    exact ⟨h1, u, by rw [upd_ne (nP a u h2 fun qs z => by subst z; exact h3)]; exact h2, h3⟩
/-- lambda: .. -/
theorem pe_lam {c P : Addr} {params : Arguments} {body : Expr} {scope : Scope} {pos : Pos} (TB : GxR.TabB X.base X.mg c P) (hcode : X.env.code = .ref c) (hm : (P, G.lq) ∈ G.tabs) (hu : ∀ p ∈ G.tabs, p.1 = P → p.2 = G.lq) (hq : G.lq = X.env.qual ++ "<lambda>") (hCL : G.CL = lamCL X.env)
    (hl : G.isLam pos = true) (hp : noPar params = true) (L : LamX.LamS X.env.scope scope) : PE X (.Lambda params body scope pos) (tE G W (sVal (.clo scope body))) := by
  refine ⟨fun pins s σ H Q I ⟨μ, ρ, st, q⟩ => ?_⟩
  have S := q.sim
  obtain ⟨ps, hP, ht, ha⟩ := S.tab _ hm
  have hdef : defaultsOf params X.env = ([], []) := by rw [noPar_eq hp]; rfl
  have hfree := L.has I.ok
  refine PySem.W.kla_eval hdef ?_
  have bP : s.heap.BuiltinsAt X.mg P := TB.bm.keeps I.bk
  have hP' : s.heap.get? P = some { cls := .none, data := .fields ps } := I.hok P _ hP
  cases hc : codeAmong pos ps.toList with
  | none =>
    refine PySem.W.kla_makeFunction (mg := X.mg) (c := c) (P := P) (ps := ps) (closure_ok hfree) I.ok.glob (I.mod.glob.keeps I.bk) hcode (TB.code.keeps I.bk) hP' ht hc TB.gP bP fun c' ctv h' tk hx hge hlt hrec htb => ?_
    obtain ⟨c2, oc, vs, t, e2, hoc, hd, hv⟩ := hrec
    cases e2
    have n : H c' = none := I.hok.fresh hge
    have I1 := LamX.inv_table (t' := tk) (q := G.lq) (more := #[rawInt pos.line, rawInt pos.col, .ref c']) (h' := h') I hP (fun b o hb e => hx b o hb e) htb hge ⟨oc, vs, t, hoc, hd, by rw [hq]; exact hv⟩
    obtain ⟨s1, S1⟩ := S.tabl (pos := pos) hP n ht hu
    have nf : (upd (upd H P (.tbl (ps ++ #[rawInt pos.line, rawInt pos.col, .ref c']))) c' (LamX.CodeO c' G.lq)) h'.objs.size = none := I1.hok.fresh (Nat.le_refl _)
    have I2 := I1.laid (t' := tk) (a := h'.objs.size) (o := .ext (G.CL scope body h'.objs.size c')) (h' := h'.push (PySem.W.kla_obj "<lambda>" (X.env.qual ++ "<lambda>") params body scope (cloFrom X.env.cells scope.names []) ((X.mg "__name__").getD .none) c' ctv))
      (fun b o e => Heap.get?_push_of_some _ e) (Nat.le_refl _) ⟨by rw [hCL]; exact ⟨L, params, _, _, hp, Heap.get?_push_size _ rfl⟩, ⟨_, Heap.get?_push_size _ rfl⟩, fun h1 h2 hh st => by
        rw [hCL] at hh ⊢
        obtain ⟨k0, pr, pm, cv, k1, k2⟩ := hh
        exact ⟨k0, pr, pm, cv, k1, st _ k2⟩⟩
    refine ⟨.ref h'.objs.size, _, I2, rfl, q.post μ _ _ (s1.trans (step_new nf)) (S1.new nf) ?_⟩
    have fc : Fz G μ c' := S.fz n
    refine .clo (S1.fz nf) upd_same fc (c := c') ?_
    rw [upd_ne (Nat.ne_of_lt hlt), upd_same]
  | some cv =>
    obtain ⟨c', e, hco⟩ := ha pos cv hc hl
    subst e
    refine PySem.W.kla_makeFunctionHit (mg := X.mg) (c := c) (P := P) (ps := ps) (closure_ok hfree) I.ok.glob (I.mod.glob.keeps I.bk) hcode (TB.code.keeps I.bk) hP' ht hc bP fun ctv h' tk hx hsz => ?_
    have I1 : L2.Inv X pins σ H { s with heap := h', toks := tk } := I.kept hx
    have nf : H h'.objs.size = none := I1.hok.fresh (Nat.le_refl _)
    have I2 := I1.laid (t' := tk) (a := h'.objs.size) (o := .ext (G.CL scope body h'.objs.size c')) (h' := h'.push (PySem.W.kla_obj "<lambda>" (X.env.qual ++ "<lambda>") params body scope (cloFrom X.env.cells scope.names []) ((X.mg "__name__").getD .none) c' ctv))
      (fun b o e => Heap.get?_push_of_some _ e) (Nat.le_refl _) ⟨by rw [hCL]; exact ⟨L, params, _, _, hp, Heap.get?_push_size _ rfl⟩, ⟨_, Heap.get?_push_size _ rfl⟩, fun h1 h2 hh st => by
        rw [hCL] at hh ⊢
        obtain ⟨k0, pr, pm, cv, k1, k2⟩ := hh
        exact ⟨k0, pr, pm, cv, k1, st _ k2⟩⟩
    refine ⟨.ref h'.objs.size, _, I2, rfl, q.post μ _ _ (step_new nf) (S.new nf) ?_⟩
    have n1 : c' ≠ h'.objs.size := fun z => by rw [← z, hco] at nf; cases nf
    have fc : Fz G μ c' := ⟨S.notLive hco (fun z => z), fun hm => by
      obtain ⟨_, u, e1, lu⟩ := S.hid _ hm
      rw [hco] at e1; cases e1; exact lu⟩
    refine .clo (S.fz nf) upd_same fc (c := c') ?_
    rw [upd_ne n1]; exact hco
end
end Bk

namespace Bk
open L2 PyProof.Rows PySem.Spec PySem

/-! ## What was held is let go as an exception goes by -/
inductive UHs (H0 : Hp) : Hp → Hp → Prop
  | refl (H : Hp) : UHs H0 H H
  | step {H H2 : Hp} {d : Addr} {od : Obj} {u : HO} : H d = some (.frz od u) → (∀ o' u', H0 d ≠ some (.frz o' u')) → UHs H0 (upd H d u) H2 → UHs H0 H H2
/-- a wish, whatever is let go first -/
def clW (H0 : Hp) (E : XK) : WX := fun c d _ H => ∃ H2, UHs H0 H H2 ∧ E c d H2
theorem clW_wc {X : Cx} {H0 : Hp} {E : XK} (h : X.H_0 = H0) : WCl X (clW H0 E) := by
  rintro c d σ H H' u ⟨H2, u2, w⟩
  rcases u with rfl | ⟨a, od, v, e, hn, rfl⟩
  · exact ⟨H2, u2, w⟩
  · exact ⟨H2, .step e (by rw [← h]; exact hn) u2, w⟩
theorem UHs.inv {X : Cx} {H0 H H2 : Hp} (u : UHs H0 H H2) (h : X.H_0 = H0) : ∀ {pins : List (Addr × Obj)} {σ : Sl} {s : Shared}, L2.Inv X pins σ H s → L2.Inv X pins σ H2 s := by
  induction u with
  | refl H => exact fun I => I
  | step e hn _ ih => exact fun I => ih (I.unlock e (by rw [h]; exact hn))
theorem UHs.none {H0 H H2 : Hp} (u : UHs H0 H H2) {a : Addr} : H a = none → H2 a = none := by
  induction u with
  | refl H => exact id
  | step e hn _ ih => exact fun n => ih (by rw [upd_ne (ne_of_none e n).symm]; exact n)
theorem takes_cl {X : Cx} {E : XK} {H0 : Hp} (h : X.H_0 = H0) (tk : Takes X fun c d _ H => E c d H) : Takes X (clW H0 E) := by
  rintro u s' ⟨a, B, sI, pins, σ, H, cls, d, e, I, nb, up, sky, na, os, ag, H2, uh, w⟩
  exact tk u s' ⟨a, B, sI, pins, σ, H2, cls, d, e, uh.inv h I, nb, up, sky, uh.none na, os, ag, w⟩

/-! ## The def that calls a lambda -/
/-- a context at the maker's own stack: the maker's itself, or a block of its own -/
abbrev mvCx (X : Cx) (s0 : Shared) (H0 : Hp) (env : Env) (out : List Env) (ex : List Addr) (fn : Str → Bool) (pn : List (Addr × Obj)) (xe : Value → Shared → Prop) : Cx :=
  { X with s_0 := s0, H_0 := H0, env := env, outer := out, ex := ex, fn := fn, pn := pn, xe := xe }
section
variable {X : Cx} {pins : List (Addr × Obj)} {σ : Sl} {H : Hp} {s : Shared}
/-- what(), in the def that got the lambda -/
theorem pe_act2 {CXg : CXT} {Eg : XK} {Ng : List Str} {qg : Str} {sg : Scope} {g f c' : Addr} {cdg : Value} {body : Expr} {scope : Scope} {k i : Nat} {a : Str} {pn : List (Addr × Obj)} {xe : Value → Shared → Prop} {W : WX} {E : XK} {tb : Hp → TE} {p1 p2 : Pos}
    (I : L2.Inv X pins σ H s)
    (tk : Takes ((cxOf CXg X.prog X.w X.K X.mg X.base Ng qg sg g cdg X.A X.stack s H Eg).tr pn xe) W) (hW : ∀ cls d σ' H', E cls d H' → W cls d σ' H') (hr : Room (k + 1) (X.A.deeper (envOfC qg sg s.heap.objs.size g cdg)))
    (hbody : ∀ (A : Around) (outer : List Env) (s : Shared) (H : Hp), Room k (A.deeper (LamX.lamEnv X scope s.heap.objs.size f c')) → PE (LamX.lamCx X A outer s H E scope f c') body (tb H))
    (hN : Ng[i]? = some a) (hv : Vis sg a) (hd : (a == ("__debug__" : Str)) = false) (hcd : (a == ("__classdict__" : Str)) = false) :
    PE ((cxOf CXg X.prog X.w X.K X.mg X.base Ng qg sg g cdg X.A X.stack s H Eg).tr pn xe) (.Call (.Name a p1) [] [] p2)
      (fun σZ HZ Q => σZ[i]? = some (some (.ref f)) ∧ HZ f = some (.ext (lamCL X.env scope body f c')) ∧ HZ c' = some (LamX.CodeO c' (X.env.qual ++ "<lambda>")) ∧ tb HZ σ HZ Q) := by
  refine ⟨fun pinsZ sZ σZ HZ Q IZ ⟨hs, hf, hc, ht⟩ => ?_⟩
  refine wpAny_Call_Name_kw (thn ((pe_var (pos := p1) (i := i) hN hv hd hcd).run pinsZ sZ σZ HZ (fun v H1 => v = .ref f ∧ H1 = HZ) IZ ⟨.ref f, hs, rfl, rfl⟩) ?_)
  rintro u s1 ⟨v, H1, I1, r1, rfl, rfl⟩
  obtain rfl : u = Value.ref f := r1
  obtain ⟨⟨L, params, pm, ctv, hp, of1⟩, _, _⟩ := I1.hok f _ hf
  refine PySem.W.callWith_F0 ⟨_, _, _, _, of1⟩ ?_
  have un : Un (frs X.stack) [] H H1 s.heap s1.heap := I1.base
  obtain ⟨⟨oc, vs, t, hoc, hdc, hvc⟩, _, _⟩ := I1.hok c' _ hc
  have hbind : bindArgs (PySem.W.kla_fn "<lambda>" (X.env.qual ++ "<lambda>") params body scope (cloFrom X.env.cells scope.names []) pm (.ref c') ctv) ⟨[], []⟩ = pure [] := by rw [noPar_eq hp]; rfl
  have rc : codeAny (model X.prog X.w) (X.A.deeper (envOfC qg sg s.heap.objs.size g cdg)) (.call (.ref f) ⟨[], []⟩) (CR (L2.CX X.prog X.w) (envOfC qg sg s.heap.objs.size g cdg :: X.stack) X.prog X.w H1 s1 Q E) s1 := by
    refine PySem.W.kla_callFunE hr.depth of1 rfl L.co L.gen rfl ⟨c', oc, vs, t, rfl, hoc, hdc, hvc⟩ ?_
    rw [hbind]
    refine wpAny_pure (wpAny_newFunctionEnv (fun y hy => (L.own y hy).2) (fun y hy => absurd hy (by simp)) (fun h₁ hns hsb => ⟨I1.nolimit.fresh _ hsb, ?_⟩) L.kind)
    have kp : ∀ b o, s1.heap.get? b = some o → h₁.get? b = some o := fun b o e => hsb.extBut b o (Nat.ne_of_lt (Heap.lt_size e)) (Heap.get?_push_of_some _ e)
    have J : L2.Inv (LamX.lamCx X (X.A.deeper (envOfC qg sg s.heap.objs.size g cdg)) (envOfC qg sg s.heap.objs.size g cdg :: X.stack) s1 H1 E scope f c') [] σ H1 { s1 with heap := h₁, toks := s1.toks + ([] : List (Str × Value)).length } :=
      LamX.lam_start2 I L I1.env0 hr.hd un hns kp
    refine PySem.W.kla_codeExpr (wpAny_mono ((hbody _ _ s1 H1 (hr.deeper _)).run [] _ _ H1 Q J ht) ?_ fun e s' hq => hq)
    rintro v s' ⟨w', H', J', rv, q⟩
    exact ⟨w', H', J'.os, J'.bare, J'.base, J'.hok, rv, q⟩
  refine wpAny_call (codeAny_mono rc fun r s' hq => ?_)
  cases r with
  | error e => exact passes_call tk hW pinsZ σZ H1 s1 e s' I1 hq
  | ok fl => cases fl with
    | ret u => exact I1.after hq
    | next => exact hq.elim
    | brk => exact hq.elim
    | cont => exact hq.elim
/-- the def: try: return what(), except e: return ret -/
structure ToldD (K : PySem.W.Frag) (mg : Str → Option Value) (x ret : Str) (CS : Addr) : Prop where
  ex : ∃ (g : Addr) (a e : Str) (Ng : List Str) (pg : Arguments) (sg : Scope) (dV kV doc pm cdv ct oc : Value) (an od : Option Addr) (osl : Array (Option Value)) (j : Nat) (p1 p2 p3 p4 p5 p6 p7 p8 : Pos),
    mg x = some (.ref g) ∧ PySem.W.keepIn K (.ref g) = true ∧
    K.lookup g = some ⟨oc, od, .func (PySem.W.fnOf x x pg [.Try [.Return (some (.Call (.Name a p1) [] [] p2)) p3] [.ExceptHandler (some (.Name e p4)) none [.Return (some (.Constant (.str ret) j p5)) p6] p7] [] [] p8] sg dV kV doc pm an cdv ct), osl⟩ ∧
    PySem.W.codeIn K cdv x = true ∧ L2.Binds K (PySem.W.fnOf x x pg [.Try [.Return (some (.Call (.Name a p1) [] [] p2)) p3] [.ExceptHandler (some (.Name e p4)) none [.Return (some (.Constant (.str ret) j p5)) p6] p7] [] [] p8] sg dV kV doc pm an cdv ct) [a] [] ∧
    FnScope Ng [a] sg ∧ Ng[0]? = some a ∧ Vis sg a ∧ (a == ("__debug__" : Str)) = false ∧ (a == ("__classdict__" : Str)) = false ∧
    sg.names.lookup e = some .globalImplicit ∧ mg e = some (.ref CS) ∧ (e == ("__debug__" : Str)) = false ∧ (∀ f : Addr, (L2.start Ng [V.ref f])[0]? = some (some (V.ref f)))
/-- what is wanted of an exception of the lambda's -/
def toldE (K : PySem.W.Frag) (CS : Addr) (ret : Str) (Q : VK) : XK := fun cls _ H' => ∃ b, PySem.W.exmOne K cls (.ref CS) = some b ∧ (b = true → Q (.str ret) H') ∧ (b = false → False)
def tTold (X : Cx) (CS : Addr) (ret : Str) (τ : Sl → Sl) (tb : Scope → Expr → Hp → XK → TE) (ta : TE) : TE := fun σ H Q => ta σ H fun v H1 => ∃ f c sc body, v = .ref f ∧ H1 f = some (.ext (lamCL X.env sc body f c)) ∧ H1 c = some (LamX.CodeO c (X.env.qual ++ "<lambda>")) ∧
  tb sc body H1 (toldE X.K CS ret Q) (τ σ) H1 Q
theorem pe_told {s0 : Shared} {H0 : Hp} {env : Env} {out : List Env} {ex : List Addr} {fn : Str → Bool} {pn : List (Addr × Obj)} {xe : Value → Shared → Prop} {τ : Sl → Sl} {x ret : Str} {CS : Addr} {k : Nat} {arg : Expr} {ta : TE} {tb : Scope → Expr → Hp → XK → TE} {p pos : Pos}
    (T : ToldD X.K X.mg x ret CS) (back : ∀ pins σ H s, L2.Inv (mvCx X s0 H0 env out ex fn pn xe) pins σ H s → ∃ pins0, L2.Inv X pins0 (τ σ) H s) (hg : Gl (mvCx X s0 H0 env out ex fn pn xe) x) (hdb : (x == ("__debug__" : Str)) = false) (hr : Room (k + 2) X.A)
    (ha : PE (mvCx X s0 H0 env out ex fn pn xe) arg ta) (hst : star' arg = false)
    (hbody : ∀ (A : Around) (outer : List Env) (s : Shared) (H : Hp) (E : XK) (sc : Scope) (body : Expr) (f c : Addr), Room k (A.deeper (LamX.lamEnv X sc s.heap.objs.size f c)) → PE (LamX.lamCx X A outer s H E sc f c) body (tb sc body H E)) :
    PE (mvCx X s0 H0 env out ex fn pn xe) (.Call (.Name x p) [arg] [] pos) (tTold X CS ret τ tb ta) := by
  obtain ⟨g, a, e, Ng, pg, sg, dV, kV, doc, pm, cdv, ct, oc, an, od, osl, j, p1, p2, p3, p4, p5, p6, p7, p8, hm, hk, lk, hcg, hb, Sg, hNg, hva, hd, hcd, hge, hme, hde, h0⟩ := T.ex
  refine ⟨fun pins s σ H Q I h => ?_⟩
  refine wpAny_Call_Name_kw (ld_glob I hg hm ?_ hdb)
  refine PySem.W.callWith_K (h₀ := X.base) I.ok.mod.kin hk (thn ((pa_cons ha pa_nil (starEach_cons hst)).run pos pins s σ H (fun vs H1 => match vs with
    | [v] => ∃ f c sc body, v = .ref f ∧ H1 f = some (.ext (lamCL X.env sc body f c)) ∧ H1 c = some (LamX.CodeO c (X.env.qual ++ "<lambda>")) ∧ tb sc body H1 (toldE X.K CS ret Q) (τ σ) H1 Q
    | _ => False) I h) fun us s1 ⟨vs, H1, I1, r, q⟩ => ⟨I1.kIn, ?_⟩) (starEach_cons hst) (by rfl)
  cases r with
  | nil => exact q.elim
  | @cons v u vs us r1 r2 =>
  cases r2 with
  | cons r3 r4 => exact q.elim
  | nil =>
    obtain ⟨f, c, sc, body, ef, hf, hc, ht⟩ := q
    subst ef
    obtain rfl : u = Value.ref f := r1
    obtain ⟨pins0, I0⟩ := back _ _ _ _ I1
    have rc : codeAny (model X.prog X.w) X.A (.call (.ref g) ⟨[.ref f], []⟩) (CR C8.CX0 X.stack X.prog X.w H1 s1 Q C8.E0) s1 := by
      refine LamX.run_ofS (N := Ng) (ps := [a]) (us := [.ref f]) (vs := [.ref f]) lk hcg Sg hr I1.env0 (hb s1 [.ref f] I1.kIn rfl) (.cons rfl .nil) rfl fun hr' => ?_
      have hgl : Gl (cxOf C8.CX0 X.prog X.w X.K X.mg X.base Ng x sg g cdv X.A X.stack s1 H1 C8.E0).nox e := hge
      refine ⟨_, (pss_one (ps_try_only (X := (cxOf C8.CX0 X.prog X.w X.K X.mg X.base Ng x sg g cdv X.A X.stack s1 H1 C8.E0).nox) (c := .ref CS)
          (tb := fun W D σ' H => ∃ Ech : XK, (∀ cls d σ' H', Ech cls d H' → W cls d σ' H') ∧ σ'[0]? = some (some (.ref f)) ∧ H f = some (.ext (lamCL X.env sc body f c)) ∧ H c = some (LamX.CodeO c (X.env.qual ++ "<lambda>")) ∧ tb sc body H Ech (τ σ) H D.rt)
          rfl rfl ⟨hgl, hde, .inl hme⟩ LamX.takes0 (fun W pn xe tk _ => ?_) (fun a oe cls d pn _ _ => pss_one (ps_ret pe_str)))).nox, ?_⟩
      · refine ⟨fun pins s' σ' H' D I' ⟨Ech, hW, h1, h2, h3, h4⟩ => ?_⟩
        have hp := pe_act2 (CXg := C8.CX0) (Eg := C8.E0) (Ng := Ng) (i := 0) (p1 := p1) (p2 := p2) (tb := fun H => tb sc body H Ech) I0 tk hW hr' (fun A outer s H hr2 => hbody A outer s H Ech sc body f c hr2) hNg hva hd hcd
        exact (pss_one (ps_ret (pos := p3) hp)).run pins s' σ' H' D I' ⟨h1, h2, h3, h4⟩
      · exact ⟨toldE X.K CS ret Q, fun cls d σ' H' ⟨b, e1, e2, e3⟩ => ⟨b, e1, fun hb a _ => e2 hb, fun hb => e3 hb⟩, h0 f, hf, hc, ht⟩
    refine wpAny_call (codeAny_mono rc fun r s2 hq => ?_)
    cases r with
    | error e => exact (show False from hq).elim
    | ok fl => cases fl with
      | ret u => exact I1.after hq
      | next => exact hq.elim
      | brk => exact hq.elim
      | cont => exact hq.elim

/-- what told(..) asks, from the evaluator's word -/
theorem run_told {G : Gl0} {W : WX} {CS : Addr} {txt : Str} {caught : Nat → Bool} {run : Scope → Expr → SE} {fa : SE} {Q : VK} (hCL : G.CL = lamCL X.env) (hq : G.lq = X.env.qual ++ "<lambda>") (hx : ∀ c, caught c = true → PySem.W.exmOne X.K (.ref (G.exc c)) (.ref CS) = some true)
    (h : tE G W (sTold txt caught run fa) σ H Q) : tTold X CS txt id (fun sc body H1 E => tE G (clW H1 E) (run sc body)) (tE G W fa) σ H Q := by
  obtain ⟨μ, ρ, st, q⟩ := h
  refine ⟨μ, ρ, st, (Run.bind q).imp ?_⟩
  rintro x H1 ⟨μ1, d, st1, s1, r, q1⟩
  cases r with
  | clo h0 h1 h2 h3 =>
    refine ⟨_, _, _, _, rfl, by rw [← hCL]; exact h1, by rw [← hq]; exact h3, μ1, ρ, st1, q1.sim, q1.lo, ?_⟩
    rename_i sc body a c
    have p : Post G W (Rep G) μ1 H1 σ Q (told txt caught (run sc body ρ st1)) := q1.post
    cases e : run sc body ρ st1 with
    | ok a st2 => rw [e] at p; exact p
    | stuck => rw [e] at p; exact p.elim
    | exn k st2 =>
      rw [e] at p
      unfold told at p
      intro μ' H' s' S'
      cases ec : caught k with
      | false => simp only [ec] at p; exact p.elim
      | true =>
        simp only [ec, if_true] at p
        exact ⟨H', .refl _, true, hx k ec, fun _ => p μ' H' _ s' S' (.str txt), fun z => by cases z⟩
  | _ => exact q1.post.elim
end
end Bk

namespace Bk
open L2 PyProof.Rows PySem.Spec PySem

/-! ## The evaluator's word holds -/
structure SameC (X Y : Cx) : Prop where
  prog : Y.prog = X.prog
  w : Y.w = X.w
  K : Y.K = X.K
  mg : Y.mg = X.mg
  base : Y.base = X.base
  N : Y.N = X.N
  calm : Y.calm = X.calm
theorem SameC.refl (X : Cx) : SameC X X := ⟨rfl, rfl, rfl, rfl, rfl, rfl, rfl⟩
theorem SameC.trans {X Y Z : Cx} (a : SameC X Y) (b : SameC Y Z) : SameC X Z := ⟨b.1.trans a.1, b.2.trans a.2, b.3.trans a.3, b.4.trans a.4, b.5.trans a.5, b.6.trans a.6, b.7.trans a.7⟩
theorem SameC.blk (X : Cx) (s : Shared) (H : Hp) (scope : Scope) (cenv : Env) (fp : List Addr) : SameC X (X.blk s H scope cenv fp) := ⟨rfl, rfl, rfl, rfl, rfl, rfl, rfl⟩
theorem _root_.L2.Room.less {a b : Nat} {A : Around} (r : Room a A) (h : b ≤ a) : Room b A := ⟨r.hd, by have := r.dp; omega, by have := r.un; omega⟩
/-- a call of a def, with or without arguments -/
def CallOkF (X : Cx) (G : Gl0) (W : WX) (x : Str) (b : Fn) : Prop := (∀ (p pos : Pos), PE X (.Call (.Name x p) [] [] pos) (tE G W (sCall b sNil))) ∧ CallOk X G W x b
def GlobV (S : SEnv) (G : Gl0) (Y : Cx) (W : WX) (x : Str) : GV → Prop
  | .blt b => ∀ h, CallOk Y (G.wh h) W x b
  | .fn b => ∀ h, CallOkF Y (G.wh h) W x b
  | .rng => x = "range" ∧ Y.mg "range" = none
  | .enm => x = "enumerate" ∧ Y.mg "enumerate" = none
  | .zip => x = "zip" ∧ Y.mg "zip" = none
  | .val d => ∃ v u, Y.mg x = some u ∧ RelV v u ∧ ∀ h μ H, Rep (G.wh h) μ H d v
  | .srt => (x = "sorted" ∧ Y.mg "sorted" = none) ∧ ∀ h, CallOk Y (G.wh h) W x bSortX
  | .tupl => (x = "tuple" ∧ Y.mg "tuple" = none) ∧ ∀ h, CallOk Y (G.wh h) W x bTupS
  | .sum => ∀ h, CallOk Y (G.wh h) W x bSumI
  | .mini => ∀ h, CallOk Y (G.wh h) W x bMinI
  | .any => x = "any" ∧ Y.mg "any" = none
  | .all => x = "all" ∧ Y.mg "all" = none
  | .told => ∃ CS, ToldD Y.K Y.mg x S.toldS CS ∧ ∀ c, S.caught c = true → PySem.W.exmOne Y.K (.ref (G.exc c)) (.ref CS) = some true
  | _ => True
def GlobOk (S : SEnv) (G : Gl0) (Y : Cx) (W : WX) (x : Str) : Prop := GlobV S G Y W x (S.glob x)
structure GX (S : SEnv) (G : Gl0) (X : Cx) (W : WX) (s : Scp) : Prop where
  N : X.N = S.N
  nd : X.N.Nodup
  sc : X.env.scope = s.sc
  fn : ∀ x, s.fn x = true → X.fn x = true
  K : G.K = X.K
  kc : S.kc = G.kdC
  room : Room (S.kf + s.lam) X.A
  calm : X.calm = true
  kd : ∀ h i, (G.wh h).kdC i ≠ [] → KdOk (G.wh h) X.w i
  wc : WCl X W
  code : s.cd = true → ∃ c P q, GxR.TabB X.base X.mg c P ∧ X.env.code = .ref c ∧ (P, q) ∈ G.tabs
  lam : ∀ p, G.isLam p = true → p ∈ S.lamP
  lamR : ∀ p ∈ S.lamP, G.isLam p = true
  top : s.top = true → ∃ c P, GxR.TabB X.base X.mg c P ∧ X.env.code = .ref c ∧ (P, G.lq) ∈ G.tabs ∧ (∀ p ∈ G.tabs, p.1 = P → p.2 = G.lq) ∧ G.lq = X.env.qual ++ "<lambda>" ∧ G.CL = lamCL X.env
  tk : Takes X W
  glob : ∀ Y W' x, SameC X Y → Room S.kf Y.A → Takes Y W' → Gl Y x → dbgB x = false → GlobOk S G Y W' x
theorem takes_f {X : Cx} : Takes X WF := fun u s' ⟨a, B, sI, pins, σ, H, cls, d, h⟩ => h.2.2.2.2.2.2.2.2.elim
section
variable {S : SEnv} {G : Gl0} {X : Cx} {W : WX} {s : Scp}
theorem GX.u (g : GX S G X W s) : X.A.units + 100 < cLine := by have := g.room.un; omega
theorem GX.blk (g : GX S G X W s) (sh : Shared) (H : Hp) (scope : Scope) (cl : List (Str × Addr)) (C : Addr) (fp : List Addr) : GX S G (X.blk sh H scope (compEnvC scope cl C X.env) fp) WF (s.rel scope) where
  N := g.N
  nd := g.nd
  sc := by
    show relabel scope X.env = relSc s.sc scope
    unfold relabel relSc Env.kindOf
    rw [g.sc]
  fn := fun x h => h
  K := g.K
  kc := g.kc
  room := g.room
  calm := g.calm
  kd := g.kd
  wc := fun c d σ H H' u w => w
  code := g.code
  lam := g.lam
  lamR := g.lamR
  top := fun z => by cases z
  tk := takes_f
  glob := fun Y W' x e => g.glob Y W' x ((SameC.blk X sh H scope _ fp).trans e)
theorem GX.gen (g : GX S G X W s) {A : Around} {sh : Shared} {H : Hp} {scope : Scope} {genv : Env} {fp : List Addr} {a : Addr} {o : Obj} (hs : genv.scope = scope) (hr : Room (S.kf + (s.gen scope).lam) A) : GX S G (gcx X A sh H scope genv fp a o) WF (s.gen scope) where
  N := g.N
  nd := g.nd
  sc := hs
  fn := fun x h => h
  K := g.K
  kc := g.kc
  room := hr
  calm := g.calm
  kd := g.kd
  wc := fun c d σ H H' u w => w
  code := fun z => by cases z
  lam := g.lam
  lamR := g.lamR
  top := fun z => by cases z
  tk := takes_f
  glob := fun Y W' x e => g.glob Y W' x (SameC.trans (show SameC X (gcx X A sh H scope genv fp a o) from ⟨rfl, rfl, rfl, rfl, rfl, rfl, rfl⟩) e)
/-- the lambda's body -/
theorem GX.lamx (g : GX S G X W s) {A : Around} {outer : List Env} {sh : Shared} {H : Hp} {E : XK} {sc : Scope} {f c : Addr} (hr : Room (S.kf + (s.lam - 2)) (A.deeper (LamX.lamEnv X sc sh.heap.objs.size f c))) :
    GX S G (LamX.lamCx X A outer sh H E sc f c) (clW H E) (s.lamS sc) where
  N := g.N
  nd := g.nd
  sc := rfl
  fn := fun x h => by cases h
  K := g.K
  kc := g.kc
  room := hr
  calm := rfl
  kd := g.kd
  wc := clW_wc rfl
  code := fun z => by cases z
  lam := g.lam
  lamR := g.lamR
  top := fun z => by cases z
  tk := takes_cl rfl (takes_of rfl rfl rfl rfl)
  glob := fun Y W' x e => g.glob Y W' x (SameC.trans (show SameC X (LamX.lamCx X A outer sh H E sc f c) from ⟨rfl, rfl, rfl, rfl, rfl, rfl, g.calm.symm⟩) e)
theorem GX.gl (g : GX S G X W s) {x : Str} (h : glOk s x = true) : Gl X x ∧ dbgB x = false := by
  unfold glOk isGlob at h
  rw [Bool.and_eq_true] at h
  refine ⟨?_, by simpa using h.2⟩
  show X.env.scope.names.lookup x = _
  rw [g.sc]
  simpa using h.1
theorem GX.g1 (g : GX S G X W s) {x : Str} (h : glOk s x = true) : GlobOk S G X W x := g.glob X W x (SameC.refl X) (g.room.less (Nat.le_add_right _ _)) g.tk (g.gl h).1 (g.gl h).2
theorem dbg_of {x : Str} (h : dbgB x = false) : (x == ("__debug__" : Str)) = false ∧ (x == ("__classdict__" : Str)) = false := by
  unfold dbgB at h
  rw [Bool.or_eq_false_iff, Bool.or_eq_false_iff] at h
  exact h.1
theorem pe_stuck {e : Expr} : PE X e (tE G W stuckE) := ⟨fun pins s σ H Q I ⟨μ, ρ, st, q⟩ => q.post.elim⟩
theorem pt_stuck {e : Expr} : PT X e (tT G W stuckE) := ⟨fun pins s σ H Q I ⟨μ, ρ, st, q⟩ => q.post.elim⟩
theorem pw_stuck {e : Expr} : PW X e (tT G W stuckE) := ⟨fun wh pins s σ H Q I ⟨μ, ρ, st, q⟩ => q.post.elim⟩
theorem pa_stuck {e : List Expr} : PA X e (tA G W stuckE) := ⟨fun pos pins s σ H Q I ⟨μ, ρ, st, q⟩ => q.post.elim⟩
theorem po_stuck {e : Option Expr} : PO X e (tO' G W stuckE) := ⟨fun pins s σ H Q I ⟨μ, ρ, st, q⟩ => q.post.elim⟩
theorem pi_stuck {tg e : Expr} : PI X tg e (tI X G W stuckE) := ⟨fun pins s σ H Q I ⟨μ, ρ, st, q⟩ => q.post.elim⟩
theorem pg_stuck {e : Expr} {vs : List Nat} : PG X e (tGt G vs fun _ _ => none) := ⟨fun pins s σ H v u Q I r ⟨μ, ρ, d, ρ', l, rd, e, q⟩ => by cases e⟩
theorem pe_gd {e : Expr} {b : Bool} {f : SE} (h : b = true → PE X e (tE G W f)) : PE X e (tE G W (gd b f)) := by
  cases b with
  | true => exact h rfl
  | false => exact pe_stuck
theorem pt_gd {e : Expr} {b : Bool} {f : ST} (h : b = true → PT X e (tT G W f)) : PT X e (tT G W (gd b f)) := by
  cases b with
  | true => exact h rfl
  | false => exact pt_stuck
theorem pa_gd {e : List Expr} {b : Bool} {f : SA} (h : b = true → PA X e (tA G W f)) : PA X e (tA G W (gd b f)) := by
  cases b with
  | true => exact h rfl
  | false => exact pa_stuck
theorem pi_gd {tg e : Expr} {b : Bool} {f : SI} (h : b = true → PI X tg e (tI X G W f)) : PI X tg e (tI X G W (gd b f)) := by
  cases b with
  | true => exact h rfl
  | false => exact pi_stuck
theorem vis_of {sc : Scope} {x : Str} (h : visB sc x = true) : Vis sc x := by
  unfold visB at h
  simp only [Bool.or_eq_true, beq_iff_eq] at h
  rcases h with (h | h) | h
  · exact .inl h
  · exact .inr (.inl h)
  · exact .inr (.inr h)
theorem s_name (g : GX S G X W s) {k : List Addr} {x : Str} {pos : Pos} (h : nmOk S s x = true) : PE X (.Name x pos) (tE (G.wh k) W (sVar (S.N.idxOf x))) := by
  unfold nmOk at h
  simp only [Bool.and_eq_true, Bool.not_eq_true', decide_eq_true_eq] at h
  have hd := dbg_of h.1.2
  exact t_var (pe_var (by rw [g.N]; exact h.2) (by rw [g.sc]; exact vis_of h.1.1) hd.1 hd.2)
theorem s_glob (g : GX S G X W s) {x : Str} {pos : Pos} {d : D} {h : List Addr} (hx : glOk s x = true) (e : S.glob x = .val d) : PE X (.Name x pos) (tE (G.wh h) W (sVal d)) := by
  have k := g.g1 hx
  unfold GlobOk at k
  rw [e] at k
  obtain ⟨v, u, h1, h2, h3⟩ := k
  have hd := dbg_of (g.gl hx).2
  exact t_val (pe_glob (g.gl hx).1 h1 h2 hd.1) (h3 h)
theorem s_bin (g : GX S G X W s) {op : Operator} {o : D → D → Store → R D} {a b : Expr} {pos : Pos} {f k : SE} {h : List Addr} (e : binF op = some o) (ha : PE X a (tE (G.wh h) W f)) (hb : PE X b (tE (G.wh h) W k)) : PE X (.BinOp a op b pos) (tE (G.wh h) W (sBin o f k)) := by
  have hK : (G.wh h).K = X.K := g.K
  cases op <;> first | (cases e; done) | (cases e)
  · exact t_bin op_addU (hK ▸ d_add) ha hb
  · exact t_bin op_sub d_sub ha hb
  · exact t_bin op_mulU d_mul ha hb
  · exact t_bin op_modN d_mod ha hb
  · exact t_bin op_pow d_pow ha hb
  · exact t_bin op_divU d_div ha hb
theorem opB_ord {o : CmpOp} : OpB (dOrd o) := fun a b st => by
  unfold dOrd
  cases ordN st o 60 a b with
  | some r => exact ⟨r, rfl⟩
  | none => trivial
theorem opB_in {kc : Nat → List (Str × Int)} {neg : Bool} : OpB (dIn kc neg) := fun a b st => by
  unfold dIn
  cases inN kc st a b with
  | some r => exact ⟨_, rfl⟩
  | none => trivial
theorem opB_is {neg : Bool} : OpB (dIs neg) := fun a b st => by
  unfold dIs
  split
  · rename_i h
    split at h <;> cases h
    exact ⟨_, rfl⟩
  · rename_i h
    split at h <;> cases h
  · trivial
/-- every comparison has its rule -/
theorem s_cmp (g : GX S G X W s) (h : List Addr) (op : CmpOp) : ∃ rr, OpR X (compareOp op) rr ∧ OpD (G.wh h) (cmpF S.kc op) rr ∧ OpB (cmpF S.kc op) := by
  have hK : (G.wh h).K = X.K := g.K
  have hu : X.A.units + 64 < cLine := by have := g.u; omega
  rw [g.kc]
  cases op
  · exact ⟨_, op_eqX hK hu, d_eq, opB_dEq⟩
  · exact ⟨_, op_neX hK hu, d_ne, opB_dNe⟩
  · exact ⟨_, op_ltX hK hu, d_ord, opB_ord⟩
  · exact ⟨_, op_leX hK hu, d_ord, opB_ord⟩
  · exact ⟨_, op_gtX hK hu, d_ord, opB_ord⟩
  · exact ⟨_, op_geX hK hu, d_ord, opB_ord⟩
  · exact ⟨_, op_isN, d_is, opB_is⟩
  · exact ⟨_, op_notN, d_isnot, opB_is⟩
  · exact ⟨_, op_inX hK (g.kd h) hu, d_in', opB_in⟩
  · exact ⟨_, op_notInX hK (g.kd h) hu, d_in', opB_in⟩
theorem behind_of {op : CmpOp} {b : Expr} (h : set' b = false) : behindInMarks op b = false := by
  cases b <;> first | rfl | cases h
end
end Bk

namespace Bk
open L2 PyProof.Rows PySem.Spec PySem

structure Snd (S : SEnv) (G : Gl0) (n : Nat) : Prop where
  e : ∀ {X W s}, GX S G X W s → ∀ h x, PE X x (tE (G.wh h) W (denE S n s x))
  t : ∀ {X W s}, GX S G X W s → ∀ h x, PT X x (tT (G.wh h) W (denT S n s x))
  w : ∀ {X W s}, GX S G X W s → ∀ h op vs p, PW X (.BoolOp op vs p) (tT (G.wh h) W (denT S n s (.BoolOp op vs p)))
  a : ∀ {X W s}, GX S G X W s → ∀ h x, PA X x (tA (G.wh h) W (denA S n s x))
  p : ∀ {X W s}, GX S G X W s → ∀ h x, PO X x (tO' (G.wh h) W (denP S n s x))
  i : ∀ {X W s}, GX S G X W s → ∀ h tg x, PI X tg x (tI X (G.wh h) W (denI S n s tg x))
  g : ∀ {X W s}, GX S G X W s → ∀ h vs x, (∀ i ∈ slotsOf S.N x, i ∈ vs) → PG X x (tGt (G.wh h) vs (denG S n s x))
  gs : ∀ {X W s}, GX S G X W s → ∀ h vs x, (∀ y ∈ x, ∀ i ∈ slot1 S.N y, i ∈ vs) → x.any star' = false → PGs X x (tGts (G.wh h) vs (denGs S n s x))
section
variable {S : SEnv} {G : Gl0} {X : Cx} {W : WX} {s : Scp} {n : Nat}
theorem ownOf_in {N : List Str} {scope : Scope} : ∀ p ∈ ownOf N scope, N[p.2]? = some p.1 := fun p hp => by
  unfold ownOf at hp
  rw [List.mem_filterMap] at hp
  obtain ⟨⟨x, k⟩, h1, h2⟩ := hp
  dsimp only at h2
  split at h2
  · rename_i hc
    cases h2
    simp only [Bool.and_eq_true] at hc
    have hm : x ∈ N := List.contains_iff_mem.mp hc.2
    show N[N.idxOf x]? = some x
    have hl := List.idxOf_lt_length_of_mem hm
    rw [List.getElem?_eq_getElem hl, List.getElem_idxOf]
  · cases h2
theorem inOwn_of {scope : Scope} {tg : Expr} (h : inOwn S scope tg = true) : ∀ i ∈ slotsOf S.N tg, i ∈ (ownS S scope).map (·.2) := fun i hi => by
  unfold inOwn at h
  rw [List.all_eq_true] at h
  exact List.contains_iff_mem.mp (h i hi)
theorem fold_of {e : Expr} (h : set' e = false) : ∀ env x, foldedSetIterable e env x = pure x := fun env x => by
  cases e <;> first | rfl | cases h
theorem tests_ok (ih : Snd S G n) (g : GX S G X W s) (h : List Addr) (ifs : List Expr) : PTs X ifs (tT (G.wh h) W (testsOf (denT S n s) ifs)) := by
  unfold testsOf
  split
  · exact pts_yes
  · exact pts_one (ih.t g h _)
  · exact ⟨fun pins s σ H Q I ⟨μ, ρ, st, q⟩ => q.post.elim⟩
theorem star1 {a : Expr} (h : star' a = false) : [a].any star' = false := by simp [h]
theorem snd_call1 (ih : Snd S G n) (g : GX S G X W s) (h : List Addr) {f : Str} {b : Fn} {p pos : Pos} {args : List Expr} (hc : ∀ h, CallOk X (G.wh h) W f b) (hs : args.any star' = false) (h0 : args ≠ []) : PE X (.Call (.Name f p) args [] pos) (tE (G.wh h) W (sCall b (denA S n s args))) :=
  hc h p pos args _ hs h0 (ih.a g h args)
theorem base_of {o : Expr} {m : Str} {env : Env} (h : callO o = true) : attributeBase o m env (eval o env) = eval o env := by
  unfold attributeBase
  split
  · simp [callO] at h
  · rfl
end
end Bk

namespace Bk
open L2 PyProof.Rows PySem.Spec PySem

/-! ## Lambdas called in a list comprehension's block -/
theorem tt_cmpP {X : Cx} {G : Gl0} {W : WX} {P : Sl → Prop} {op : CmpOp} {pos : Pos} {rr : R2} {o : D → D → Store → R D} {a b : Expr} {f g : SE} (hb' : OpB o) (ho : OpR X (compareOp op) rr) (hd : OpD G o rr) (hm : behindInMarks op b = false)
    (ha : PE X a (fun σ H Q => P σ ∧ tE G W f σ H Q)) (hb : PE X b (tE G W g)) : PT X (.Compare a [op] [b] pos) (fun σ H Q => P σ ∧ tT G W (tVal (sBin o f g)) σ H Q) :=
  PTimp (pt_cmpR ho ha hb hm) fun σ H Q ⟨hp, μ, ρ, st, q⟩ => by
    have q' : Run G W rpB μ ρ st σ H Q ((f ρ st).bind fun a st1 => ((g ρ st1).bind fun b st2 => (o a b st2).bind fun d st3 => match truthy st3 d with | some b => .ok b st3 | none => .stuck)) := by
      have e : (tVal (sBin o f g)) ρ st = ((f ρ st).bind fun a st1 => ((g ρ st1).bind fun b st2 => (o a b st2).bind fun d st3 => match truthy st3 d with | some b => .ok b st3 | none => .stuck)) := by
        unfold tVal sBin
        cases f ρ st with
        | ok a st1 => show R.bind (R.bind (g ρ st1) _) _ = R.bind (g ρ st1) _; cases g ρ st1 <;> rfl
        | exn c st1 => rfl
        | stuck => rfl
      rw [e] at q; exact q
    exact ⟨hp, μ, ρ, st, (Run.bind q').imp fun x H1 ⟨μ1, a, st1, s1, ra, q1⟩ => ⟨μ1, ρ, st1, (Run.bind q1).imp fun y H2 ⟨μ2, b, st2, s2, rb, q2⟩ => hd (run_bl hb' q2) (ra.step s2) rb⟩⟩
section
variable {X : Cx}
/-- a list comprehension at a state: what stands in its block may lean on the state at the block's start -/
theorem lc_at {pins : List (Addr × Obj)} {s : Shared} {σ : Sl} {H : Hp} {Q : VK} {elt tg iter : Expr} {ifs : List Expr} {scope : Scope} {own : List (Str × Nat)} {pos pos' : Pos} {wi : TI} {g : TG} {tt : TT} {te : TE} {use : Option (Value → Sem Unit)} {Qf : Value → Shared → Prop}
    (hc : X.calm = true) (hN : X.N.Nodup) (I : L2.Inv X pins σ H s) (hi : PI X tg iter wi) (ok : BlkOk X.N X.env.scope scope own)
    (hb : ∀ (sb : Shared) (Hb : Hp) (C : Addr) (cl : List (Str × Addr)) (fp : List Addr), L2.Inv X pins σ Hb sb → (∀ b ∈ fp, FpOk X pins Hb b) →
      PG (X.blk sb Hb scope (compEnvC scope cl C X.env) fp) tg g ∧ PTs (X.blk sb Hb scope (compEnvC scope cl C X.env) fp) ifs tt ∧ PE (X.blk sb Hb scope (compEnvC scope cl C X.env) fp) elt te) (hs : ∀ x, foldedSetIterable iter X.env x = pure x)
    (h : tLc wi g tt te (own.map (·.2)) σ H Q)
    (hRR : ∀ D C s' m H', L2.Inv X pins σ H' s' → Q (.ref D) H' → s'.heap.Ns C m → FpOk X pins H' C → compPost (model X.prog X.w) X.A X.xe use Qf (.ref D) C (.ok .next) s') :
    wpAny (model X.prog X.w) X.A (comprehension (.ListComp elt [⟨tg, iter, ifs, 0⟩] scope pos) scope X.env pos' (newList []) false (eval iter X.env) use) Qf X.xe s := by
  have has : ∀ y ∈ scope.names, y.2 = .free → ∃ c, X.env.cells.lookup y.1 = some c := fun y hy e => (ok.free y hy e).elim (fun k => I.ok.has _ (.inl k)) fun k => I.ok.has _ (.inr k)
  refine wpAny_comprehension_free (use := use) rfl hs (closure_ok has) ok.kind (fun y hy e => by rw [ok.uniq y hy, e]) (thn (hi.run pins s σ H _ I h) fun itx s1 hx => thn hx fun ity s2 h2 => ?_)
  obtain ⟨it, fp, tn, J, H2, rfl, I2, T, t2, f2, q⟩ := h2
  refine wpAny_newObj_type (newEnv_comp ?_) (by show 0 ≤ sizeLine; decide)
  obtain ⟨W, ⟨m0, w0⟩, turn⟩ := q s2.heap.objs.size (I2.hok.fresh (Nat.le_refl _))
  have hsz : ∀ b ∈ fp, b < s2.heap.objs.size := fun b hb => let ⟨o, e, _⟩ := T.obj _ _ t2 b hb; Heap.lt_size e
  obtain ⟨s3, hs3⟩ : ∃ s3 : Shared, s3 = { s2 with heap := s2.heap.push { cls := .type "list", data := .seq ([] : List Value).toArray } } := ⟨_, rfl⟩
  obtain ⟨H3, hH3⟩ : ∃ H3 : Hp, H3 = upd H2 s2.heap.objs.size (.lst []) := ⟨_, rfl⟩
  have h3 : s3.heap = s2.heap.push { cls := .type "list", data := .seq ([] : List Value).toArray } := by rw [hs3]
  have I3 : L2.Inv X pins σ H3 s3 := by
    rw [hs3, hH3]
    exact I2.laid (t' := s2.toks) (fun b o e => Heap.get?_push_of_some _ e) (Nat.le_refl _) ⟨Nat.zero_le _, [], 0, .nil, Heap.get?_push_size _ rfl⟩
  have f3 : ∀ b ∈ fp, FpOk X pins H3 b ∧ b < s3.heap.objs.size := fun b hb => ⟨⟨by rw [hH3, upd_ne (Nat.ne_of_lt (hsz b hb))]; exact (f2 b hb).1, (f2 b hb).2⟩, by rw [h3, Heap.size_push]; exact Nat.lt_succ_of_lt (hsz b hb)⟩
  have t3 : tn 0 s3.heap := T.keep _ _ _ t2 fun b _ o e => by rw [h3]; exact Heap.get?_push_of_some _ e
  have I4 := block_start I3 ok hN f3
  obtain ⟨pg, pt, pe⟩ := hb s3 H3 s3.heap.objs.size (cellsFrom (s3.heap.objs.size + 1) scope.names (cloFrom X.env.cells scope.names [])) fp I3 fun b hb => (f3 b hb).1
  rw [← hs3]
  rw [← hH3] at w0
  show codeAny _ _ (.compStart (.ListComp elt [⟨tg, iter, ifs, 0⟩] scope pos) 0 (.ref it) (.ref s2.heap.objs.size) (compEnvC scope (cellsFrom (s3.heap.objs.size + 1) scope.names (cloFrom X.env.cells scope.names [])) s3.heap.objs.size X.env)) (compPost (model X.prog X.w) X.A X.xe use Qf (.ref s2.heap.objs.size) s3.heap.objs.size)
    { s3 with heap := pushCells (s3.heap.push { cls := .type "dict", data := .dict #[] }) scope.names }
  obtain ⟨ce, hce⟩ : ∃ ce : Env, ce = compEnvC scope (cellsFrom (s3.heap.objs.size + 1) scope.names (cloFrom X.env.cells scope.names [])) s3.heap.objs.size X.env := ⟨_, rfl⟩
  have cL : ce.locals = s3.heap.objs.size := by rw [hce]; rfl
  obtain ⟨s4, hs4⟩ : ∃ s4 : Shared, s4 = { s3 with heap := pushCells (s3.heap.push { cls := .type "dict", data := .dict #[] }) scope.names } := ⟨_, rfl⟩
  rw [← hce] at I4 pg pt pe ⊢
  rw [← hs4] at I4 ⊢
  have t4 : tn 0 s4.heap := T.keep _ _ _ t3 fun b _ o e => by rw [hs4]; exact pushCells_keeps _ _ _ _ (Heap.get?_push_of_some _ e)
  have stt : ∀ {σ' : Sl} {H' : Hp} {s' : Shared}, L2.Inv (X.blk s3 H3 scope ce fp) [] σ' H' s' → (∀ b ∈ fp, H' b = none) → ∀ b ∈ fp, FpOk (X.blk s3 H3 scope ce fp) [] H' b := fun {σ' H' s'} J' hn b hb =>
    ⟨hn b hb, (J'.ok.exf b hb).1, J'.ok.exfs b hb, .inl hb, fun x c e => (J'.ok.exf b hb).2 x c e, fun p hp => by cases (show p ∈ ([] : List (Addr × Obj)) from hp)⟩
  have loop : codeAny (model X.prog X.w) X.A (.compLoop (.ListComp elt [⟨tg, iter, ifs, 0⟩] scope pos) 0 (.ref it) (.ref s2.heap.objs.size) ce) (compPost (model X.prog X.w) X.A X.xe use Qf (.ref s2.heap.objs.size) s3.heap.objs.size) s4 := by
    refine compLoop_any (fun n s' => ∃ i H', L2.Inv (X.blk s3 H3 scope ce fp) [] (wipe σ (own.map (·.2))) H' s' ∧ tn i s'.heap ∧ (∀ b ∈ fp, H' b = none) ∧ W i n H') ?_ m0 ⟨0, H3, I4, t4, fun b hb => (f3 b hb).1.1, w0⟩
    rintro n s5 ⟨i, H5, I5, t5, n5, w5⟩
    rcases turn i n H5 w5 with ⟨stop, fin⟩ | ⟨go, Nx, hNx, step⟩
    · refine thnF (T.done (X.blk s3 H3 scope ce fp) rfl rfl rfl hc i [] s5 _ H5 (fun _ _ => False) I5 (stt I5 n5) t5 stop) ?_
      rintro r s6 ⟨rfl, I6⟩
      have I7 : L2.Inv X pins σ H5 s6 := I3.call' (ch := fp) I6.os I6.base I6.hok I6.bare fun b hb => ⟨(f3 b hb).1.2.2.2.1, (f3 b hb).1.2.1, (f3 b hb).1.2.2.2.2.1, (f3 b hb).1.2.2.2.2.2⟩
      obtain ⟨m, hn, _⟩ := I6.loc
      exact hRR _ _ s6 m H5 I7 fin (by rw [← cL]; exact hn) (I3.fpOk (Nat.le_refl _) (by rw [← cL]; exact I6.free))
    · refine thnF (T.item (X.blk s3 H3 scope ce fp) rfl rfl rfl hc i [] s5 _ H5 (fun _ _ => False) I5 (stt I5 n5) t5 go) ?_
      rintro r s6 ⟨u, rfl, h6⟩
      refine thnF h6 fun _ s7 ⟨x, H7, I7, r7, y7, t7, n7⟩ => ?_
      refine thnF (pg.run _ s7 _ H7 x u _ (I7.pinned (stt I7 n7) (T.obj _ _ t7)) r7 (step x H7 y7)) fun _ s8 ⟨σ8, H8, I8, hw, q8⟩ => ?_
      refine thnF (pt.run _ s8 σ8 H8 _ I8 q8) fun b s9 ⟨H9, I9, q9⟩ => ?_
      have next : ∀ {s' : Shared} {H' : Hp}, L2.Inv (X.blk s3 H3 scope ce fp) ([] ++ pinsAt fp s7.heap) σ8 H' s' → Nx H' →
          ∃ m, m < n ∧ ∃ i H', L2.Inv (X.blk s3 H3 scope ce fp) [] (wipe σ (own.map (·.2))) H' s' ∧ tn i s'.heap ∧ (∀ b ∈ fp, H' b = none) ∧ W i m H' := fun {s' H'} J' nx => by
        obtain ⟨m', hm, w'⟩ := hNx H' nx
        have pn : ∀ b ∈ fp, ∀ o, s7.heap.get? b = some o → s'.heap.get? b = some o ∧ H' b = none := fun b hb o e => by
          have z := J'.pin (b, o) (List.mem_append_right _ (List.mem_append_right _ (mem_pinsAt hb e)))
          exact ⟨z.1, z.2.1⟩
        refine ⟨m', hm, i + 1, H', (J'.unpinned (pins := [])).weak (by rw [← hw, wipe_length]) (fun j v e => ?_), T.keep _ _ _ t7 fun b hb o e => (pn b hb o e).1, fun b hb => ?_, w'⟩
        · rw [← hw] at e; exact (wipe_some e).1
        · obtain ⟨o, e, _⟩ := T.obj _ _ t7 b hb
          exact (pn b hb o e).2
      cases b with
      | false => simp only [Bool.false_eq_true, if_false] at q9 ⊢; exact next I9 q9
      | true =>
        simp only [if_true] at q9 ⊢
        refine thnF (pe.run _ s9 σ8 H9 _ I9 q9) fun z s10 ⟨yv, H10, I10, r10, acc, hD, hz, nx⟩ => ?_
        exact app_ok (X := X.blk s3 H3 scope ce fp) I10 hD hz r10 fun s11 I11 => next I11 nx
  exact codeAny_compStart_list loop (T.self X.A 0 _ _ _ t4 loop)
end
section
variable {S : SEnv} {X : Cx} {G : Gl0} {W : WX} {s : Scp} {σ : Sl} {H : Hp} {Q : VK}
/-- as run_lc, with what is known of the slots -/
theorem run_lcW {m : Bool} {vs : List Nat} {fi : SI} {g : SG} {t : ST} {f : SE} (wc : WCl X W) (q : tE G W (sComp m vs fi g t f) σ H Q) :
    tLc (tI X G W fi) (xG G vs g) (fun σ2 H2 K => ∃ h, wipe σ2 vs = wipe σ vs ∧ tT (G.wh h) WF t σ2 H2 K) (xE G WF f) vs σ H (fun v H1 => ∃ H2, UH X H1 H2 ∧ Q v H2) := by
  obtain ⟨μ, ρ, st, q⟩ := q
  refine ⟨μ, ρ, st, q.sim, q.lo, ?_⟩
  have p : Post G W (Rep G) μ H σ Q ((fi ρ st).bind fun w st1 => unlkR w.lk (noExn ((compC g t f (wipeD ρ vs) w.cur w.n 0 st1).bind fun ys st2 => mkB m ys st2))) := q.post
  cases e : fi ρ st with
  | ok w st1 =>
    rw [e] at p
    intro μ1 H1 J s S cu lk D hD
    obtain ⟨V, h0, turn⟩ := comp_core S (q.lo.step s) cu (Post.unl s lk wc p) D hD
    refine ⟨V, h0, fun i m H hV => (turn i m H hV).imp id fun ⟨go, Nx, h1, h2⟩ => ⟨go, Nx, h1, fun x H' y => xG_imp (h2 x H' y) ?_⟩⟩
    rintro σ2 H2 ⟨w, k, q⟩
    exact ⟨w, k, w, q⟩
  | exn c st1 => rw [e] at p; exact p
  | stuck => rw [e] at p; exact p
/-- told(f) of a lambda of the maker's, from the evaluator's word -/
theorem run_toldB {CS : Addr} {txt : Str} {caught : Nat → Bool} {run : Scope → Expr → SE} {fa : SE} {vs : List Nat} {σ2 : Sl} (hCL : G.CL = lamCL X.env) (hq : G.lq = X.env.qual ++ "<lambda>") (hx : ∀ c, caught c = true → PySem.W.exmOne X.K (.ref (G.exc c)) (.ref CS) = some true)
    (hw : wipe σ2 vs = wipe σ vs) (h : tE G W (sToldB vs txt caught run fa) σ2 H Q) : tTold X CS txt (fun _ => σ) (fun sc body H1 E => tE G (clW H1 E) (run sc body)) (tE G W fa) σ2 H Q := by
  obtain ⟨μ, ρ, st, q⟩ := h
  refine ⟨μ, ρ, st, (Run.bind q).imp ?_⟩
  rintro x H1 ⟨μ1, d, st1, s1, r, q1⟩
  cases r with
  | clo h0 h1 h2 h3 =>
    rename_i sc body a c
    have lo : Lo G μ1 (wipeD ρ vs) σ H1 := by
      have l := q1.lo.wipe vs
      rw [hw] at l
      exact ⟨l.len.trans (wipe_length _ _), fun i d e => let ⟨v, k1, k2⟩ := l.at' i d e; ⟨v, (wipe_some k1).1, k2⟩⟩
    refine ⟨_, _, _, _, rfl, by rw [← hCL]; exact h1, by rw [← hq]; exact h3, μ1, wipeD ρ vs, st1, q1.sim, lo, ?_⟩
    have p : Post G W (Rep G) μ1 H1 σ2 Q (told txt caught (run sc body (wipeD ρ vs) st1)) := q1.post
    cases e : run sc body (wipeD ρ vs) st1 with
    | ok a st2 => rw [e] at p; exact p
    | stuck => rw [e] at p; exact p.elim
    | exn k st2 =>
      rw [e] at p
      unfold told at p
      intro μ' H' s' S'
      cases ec : caught k with
      | false => simp only [ec] at p; exact p.elim
      | true =>
        simp only [ec, if_true] at p
        exact ⟨H', .refl _, true, hx k ec, fun _ => p μ' H' _ s' S' (.str txt), fun z => by cases z⟩
  | _ => exact q1.post.elim
end
end Bk

namespace Bk
open L2 PyProof.Rows PySem.Spec PySem

section
variable {S : SEnv} {G : Gl0} {X : Cx} {W : WX} {s : Scp} {n : Nat}
abbrev ToldX (S : SEnv) (G : Gl0) (X : Cx) (x : Str) : Prop := ∃ CS, ToldD X.K X.mg x S.toldS CS ∧ ∀ c, S.caught c = true → PySem.W.exmOne X.K (.ref (G.exc c)) (.ref CS) = some true
theorem badT_eq {c : Expr} {t f x : Str} (h : badT c = some (t, f, x)) : ∃ p3 p4 p5 j2 p6 p7, c = .Compare (.Call (.Name t p3) [.Name f p4] [] p5) [.NotEq] [.Constant (.str x) j2 p6] p7 := by
  unfold badT at h
  split at h
  · cases h; exact ⟨_, _, _, _, _, _, rfl⟩
  · cases h
theorem intC_eq {c : Expr} {k : Int} (h : intC c = some k) : ∃ j p, c = .Constant (.int k) j p := by
  unfold intC at h
  split at h
  · cases h; exact ⟨_, _, rfl⟩
  · cases h
theorem nameC_eq {c : Expr} {f : Str} (h : nameC c = some f) : ∃ p, c = .Name f p := by
  unfold nameC at h
  split at h
  · cases h; exact ⟨_, rfl⟩
  · cases h
theorem isTold_eq {g : GV} (h : isTold g = true) : g = .told := by
  unfold isTold at h
  split at h
  · rfl
  · cases h
theorem badForm_eq {elt tg : Expr} {ifs : List Expr} {k : Int} {f x : Str} (h : badForm S s elt tg ifs = some (k, f, x)) : ∃ t j1 p1 p2 p3 p4 p5 j2 p6 p7, elt = .Constant (.int k) j1 p1 ∧ tg = .Name f p2 ∧
    ifs = [.Compare (.Call (.Name t p3) [.Name f p4] [] p5) [.NotEq] [.Constant (.str x) j2 p6] p7] ∧ glOk s t = true ∧ S.glob t = .told := by
  unfold badForm at h
  split at h
  · rename_i c
    cases e1 : badT c with
    | none => rw [e1] at h; cases h
    | some r =>
      obtain ⟨t, f', x'⟩ := r
      rw [e1] at h
      cases e2 : intC elt with
      | none => rw [e2] at h; cases h
      | some k' =>
        rw [e2] at h
        cases e3 : nameC tg with
        | none => rw [e3] at h; cases h
        | some g =>
          rw [e3] at h
          simp only [Option.bind_some] at h
          split at h
          · rename_i hh
            obtain ⟨h1, h2, h3⟩ := hh
            cases h
            subst h1
            obtain ⟨p3, p4, p5, j2, p6, p7, rfl⟩ := badT_eq e1
            obtain ⟨j1, p1, rfl⟩ := intC_eq e2
            obtain ⟨p2, rfl⟩ := nameC_eq e3
            exact ⟨t, j1, p1, p2, p3, p4, p5, j2, p6, p7, rfl, rfl, rfl, h2, isTold_eq h3⟩
          · cases h
  · cases h
theorem t_lam (g : GX S G X W s) (h : List Addr) {params : Arguments} {body : Expr} {lsc : Scope} {p : Pos} (hl : lamOk S s params lsc p = true) : PE X (.Lambda params body lsc p) (tE (G.wh h) W (sVal (.clo lsc body))) := by
  unfold lamOk at hl
  simp only [Bool.and_eq_true] at hl
  obtain ⟨⟨⟨h1, h2⟩, h3⟩, h4⟩ := hl
  obtain ⟨c, P, TB, hcode, hm, hu, hq, hCL⟩ := g.top h1
  rw [← g.sc] at h4
  exact pe_lam (G := G.wh h) TB hcode hm hu hq hCL (g.lamR p (by simpa using h3)) h2 (LamX.lamS_by h4)
theorem t_told (ih : Snd S G n) (g : GX S G X W s) (h : List Addr) {f : Str} {a : Expr} {p pos : Pos} (hgl : Gl X f) (hd : dbgB f = false) (ht : s.top = true) (hl : 2 ≤ s.lam) (hT : ToldX S G X f) (hs : star' a = false) :
    PE X (.Call (.Name f p) [a] [] pos) (tE (G.wh h) W (sTold S.toldS S.caught (fun lsc body => denE S n (s.lamS lsc) body) (denE S n s a))) := by
  obtain ⟨CS, T, hx⟩ := hT
  obtain ⟨c, P, TB, hcode, hm, hu, hq, hCL⟩ := g.top ht
  have k := pe_told (X := X) (s0 := X.s_0) (H0 := X.H_0) (env := X.env) (out := X.outer) (ex := X.ex) (fn := X.fn) (pn := X.pn) (xe := X.xe) (τ := id) (k := S.kf + (s.lam - 2)) (p := p) (pos := pos) (arg := a)
    (tb := fun sc body H1 E => tE (G.wh h) (clW H1 E) (denE S n (s.lamS sc) body)) T (fun pins σ H s I => ⟨pins, I⟩) hgl (dbg_of hd).1 (g.room.less (by omega)) (ih.e g h a) hs (fun A outer sh H E sc body f c hr => ih.e (g.lamx hr) h body)
  exact PEimp k fun σ H Q q => run_told (G := G.wh h) hCL hq hx q
theorem t_bad (ih : Snd S G n) (g : GX S G X W s) (h : List Addr) {m : Bool} {f t : Str} {k : Int} {x : Str} {it : Expr} {scope : Scope} {j1 j2 : Nat} {p p1 p2 p3 p4 p5 p6 p7 : Pos} (ht : s.top = true) (hl : 2 ≤ s.lam) (hgl : glOk (s.rel scope) t = true) (hT : S.glob t = .told)
    (ok : BlkOk X.N X.env.scope scope (ownS S scope)) (ho : inOwn S scope (.Name f p2) = true) (hs : set' it = false) (hn : nmOk S (s.rel scope) f = true) :
    PE X (.ListComp (.Constant (.int k) j1 p1) [⟨.Name f p2, it, [.Compare (.Call (.Name t p3) [.Name f p4] [] p5) [.NotEq] [.Constant (.str x) j2 p6] p7], 0⟩] scope p)
      (tE (G.wh h) W (sComp m ((ownS S scope).map (·.2)) (denI S n s (.Name f p2) it) (denG S n (s.rel scope) (.Name f p2))
        (tVal (sBin (cmpF S.kc .NotEq) (sToldB ((ownS S scope).map (·.2)) S.toldS S.caught (fun lsc body => denE S n (s.lamS lsc) body) (sVar (S.N.idxOf f))) (sVal (.str x)))) (sVal (.int k)))) := by
  obtain ⟨c, P, TB, hcode, hm, hu, hq, hCL⟩ := g.top ht
  refine ⟨fun pins sh σ H Q I q => ?_⟩
  rw [eval_ListComp]
  refine lc_at (Q := fun v H1 => ∃ H2, UH X H1 H2 ∧ Q v H2) g.calm g.nd I (ih.i g h _ _) ok (fun sb Hb C cl fp Ib hfp => ?_) (fold_of hs _) (run_lcW (G := G.wh h) g.wc q) ?_
  · have gb := g.blk sb Hb scope cl C fp
    refine ⟨pg_x fun k => ih.g gb k _ _ (inOwn_of ho), pts_one ⟨fun pins' s' σ' H' Q' I' ⟨k, q'⟩ => ?_⟩, pe_x fun k => t_val pe_int fun μ H => .int _⟩
    obtain ⟨rr, h1, h2, h3⟩ := s_cmp gb k .NotEq
    have kt := gb.g1 hgl
    unfold GlobOk at kt
    rw [hT] at kt
    obtain ⟨CS, T, hx⟩ := kt
    have pt := pe_told (X := X) (s0 := sb) (H0 := Hb) (env := compEnvC scope cl C X.env) (out := X.stack) (ex := fp) (fn := fun x => scope.names.lookup x == some .cell) (pn := []) (xe := fun _ _ => False) (τ := fun _ => σ) (k := S.kf + (s.lam - 2)) (p := p3) (pos := p5) (arg := .Name f p4)
      (tb := fun sc body H1 E => tE (G.wh k) (clW H1 E) (denE S n (s.lamS sc) body)) T
      (fun pins' σ' H' s' J => ⟨pins, Ib.call' (ch := fp) J.os J.base J.hok J.bare fun b hb => ⟨(hfp b hb).2.2.2.1, (hfp b hb).2.1, (hfp b hb).2.2.2.2.1, (hfp b hb).2.2.2.2.2⟩⟩) (gb.gl hgl).1 (dbg_of (gb.gl hgl).2).1 (g.room.less (by omega)) (s_name gb (k := k) hn) rfl
      (fun A outer sh H E sc body f c hr => ih.e (g.lamx hr) k body)
    exact (tt_cmpP (P := fun σ2 => wipe σ2 ((ownS S scope).map (·.2)) = wipe σ ((ownS S scope).map (·.2))) h3 h1 h2 rfl (PEimp pt fun σ2 H2 Q2 ⟨hw, q2⟩ => run_toldB (G := G.wh k) hCL hq hx hw q2) (t_val pe_str fun μ H => .str _)).run pins' s' σ' H' Q' I' q'
  · rintro D C s' m' H' I' ⟨H2, u, q2⟩ hn' fo
    refine ⟨m', hn', fun h'' sbt => ?_⟩
    obtain ⟨f0, f1, f2, f3, f4, f5⟩ := fo
    exact ⟨.ref D, H2, Inv.uh (I'.turned (t' := s'.toks) (fun b o hb e => (sbt.2 b hb).trans e) f0 f1 f3 f4 f5) u, rfl, q2⟩
end
end Bk

namespace Bk
open L2 PyProof.Rows PySem.Spec PySem
section
variable {S : SEnv} {G : Gl0} {X : Cx} {W : WX} {s : Scp} {n : Nat}
theorem and_l {a b : Bool} (h : (a && b) = true) : a = true := (Bool.and_eq_true _ _ ▸ h).1
theorem and_r {a b : Bool} (h : (a && b) = true) : b = true := (Bool.and_eq_true _ _ ▸ h).2
theorem not_t {b : Bool} (h : (!b) = true) : b = false := by simpa using h
theorem genfold_of {e : Expr} (h : disp' e = false) : ∀ env v, genFold e env v = pure v := fun env v => by
  cases e <;> first | rfl | cases h
theorem gscp_of (g : GX S G X W s) {scope : Scope} {gp : Pos} (ok : BlkOk X.N X.env.scope scope (ownS S scope)) (h : genOk S s scope gp = true) : GScp X scope (ownS S scope) ∧ s.cd = true ∧ 2 ≤ s.lam ∧ ∀ q, G.isLam q = true → ¬ (q.line = gp.line ∧ q.col = gp.col) := by
  have h1 := and_l h
  have h2 := and_l h1
  have h3 := and_l h2
  have h4 := and_l h3
  have h5 := and_l h4
  refine ⟨⟨ok, not_t (and_r h4), fun y hy e => ?_, beq_iff_eq.mp (and_r h2), fun hm => ?_⟩, and_l h5, of_decide_eq_true (and_r h5), fun q hq hz => ?_⟩
  · have := List.all_eq_true.mp (and_r h3) y hy
    rw [e] at this; cases this
  · have := not_t (and_r h1)
    rw [← g.N, List.contains_iff_mem.mpr hm] at this; cases this
  · have := List.all_eq_true.mp (and_r h) q (g.lam q hq)
    simp [hz.1, hz.2] at this
theorem t_any1 (ih : Snd S G n) (g : GX S G X W s) (h : List Addr) {elt tg it : Expr} {ifs : List Expr} {scope : Scope} {gp p pos : Pos} (hgl : Gl X "any") (hm : X.mg "any" = none) (ok : BlkOk X.N X.env.scope scope (ownS S scope)) (ho : ∀ i ∈ slotsOf S.N tg, i ∈ (ownS S scope).map (·.2)) (hs : disp' it = false) (hg : genOk S s scope gp = true) :
    PE X (.Call (.Name "any" p) [.GeneratorExp elt [⟨tg, it, ifs, 0⟩] scope gp] [] pos) (tE (G.wh h) W (sAny true ((ownS S scope).map (·.2)) (denI S n s tg it) (denG S n (s.gen scope) tg) (testsOf (denT S n (s.gen scope)) ifs) (denE S n (s.gen scope) elt))) := by
  obtain ⟨sp, hcd, h2, hl⟩ := gscp_of g ok hg
  obtain ⟨c, P, q, k1, k2, k3⟩ := g.code hcd
  have hr : Room (S.kf + (s.gen scope).lam + 2) X.A := g.room.less (by show S.kf + (s.lam - 2) + 2 ≤ _; omega)
  exact PEimp (pe_unl (pe_anyG (k := S.kf + (s.gen scope).lam) (own := ownS S scope) (gt := xG (G.wh h) ((ownS S scope).map (·.2)) (denG S n (s.gen scope) tg)) (tt := xT (G.wh h) WF (testsOf (denT S n (s.gen scope)) ifs)) (te := xE (G.wh h) WF (denE S n (s.gen scope) elt)) g.calm hr hgl hm k1 k2 sp g.nd (fun h i => xG_imp h i) (ih.i g h tg it) (genfold_of hs _)
    (fun A sh H genv fp a o e r => pg_x fun k => ih.g (g.gen e r) k _ _ ho) (fun A sh H genv fp a o e r => pts_x fun k => tests_ok ih (g.gen e r) k _) (fun A sh H genv fp a o e r => pe_x fun k => ih.e (g.gen e r) k _))) fun σ H Q z => run_any (G := G.wh h) g.wc k3 hl z
theorem t_all1 (ih : Snd S G n) (g : GX S G X W s) (h : List Addr) {elt tg it : Expr} {ifs : List Expr} {scope : Scope} {gp p pos : Pos} (hgl : Gl X "all") (hm : X.mg "all" = none) (ok : BlkOk X.N X.env.scope scope (ownS S scope)) (ho : ∀ i ∈ slotsOf S.N tg, i ∈ (ownS S scope).map (·.2)) (hs : disp' it = false) (hg : genOk S s scope gp = true) :
    PE X (.Call (.Name "all" p) [.GeneratorExp elt [⟨tg, it, ifs, 0⟩] scope gp] [] pos) (tE (G.wh h) W (sAny false ((ownS S scope).map (·.2)) (denI S n s tg it) (denG S n (s.gen scope) tg) (testsOf (denT S n (s.gen scope)) ifs) (denE S n (s.gen scope) elt))) := by
  obtain ⟨sp, hcd, h2, hl⟩ := gscp_of g ok hg
  obtain ⟨c, P, q, k1, k2, k3⟩ := g.code hcd
  have hr : Room (S.kf + (s.gen scope).lam + 2) X.A := g.room.less (by show S.kf + (s.lam - 2) + 2 ≤ _; omega)
  exact PEimp (pe_unl (pe_allG (k := S.kf + (s.gen scope).lam) (own := ownS S scope) (gt := xG (G.wh h) ((ownS S scope).map (·.2)) (denG S n (s.gen scope) tg)) (tt := xT (G.wh h) WF (testsOf (denT S n (s.gen scope)) ifs)) (te := xE (G.wh h) WF (denE S n (s.gen scope) elt)) g.calm hr hgl hm k1 k2 sp g.nd (fun h i => xG_imp h i) (ih.i g h tg it) (genfold_of hs _)
    (fun A sh H genv fp a o e r => pg_x fun k => ih.g (g.gen e r) k _ _ ho) (fun A sh H genv fp a o e r => pts_x fun k => tests_ok ih (g.gen e r) k _) (fun A sh H genv fp a o e r => pe_x fun k => ih.e (g.gen e r) k _))) fun σ H Q z => run_any (G := G.wh h) g.wc k3 hl z
theorem t_tup1 (ih : Snd S G n) (g : GX S G X W s) (h : List Addr) {elt tg it : Expr} {ifs : List Expr} {scope : Scope} {gp p pos : Pos} (hgl : Gl X "tuple") (hm : X.mg "tuple" = none) (ok : BlkOk X.N X.env.scope scope (ownS S scope)) (ho : ∀ i ∈ slotsOf S.N tg, i ∈ (ownS S scope).map (·.2)) (hs : disp' it = false) (hg : genOk S s scope gp = true) :
    PE X (.Call (.Name "tuple" p) [.GeneratorExp elt [⟨tg, it, ifs, 0⟩] scope gp] [] pos) (tE (G.wh h) W (genL ((ownS S scope).map (·.2)) (denI S n s tg it) (denG S n (s.gen scope) tg) (testsOf (denT S n (s.gen scope)) ifs) (denE S n (s.gen scope) elt) fun ds st1 => mkT ds st1)) := by
  obtain ⟨sp, hcd, h2, hl⟩ := gscp_of g ok hg
  obtain ⟨c, P, q, k1, k2, k3⟩ := g.code hcd
  have hr : Room (S.kf + (s.gen scope).lam + 2) X.A := g.room.less (by show S.kf + (s.lam - 2) + 2 ≤ _; omega)
  exact PEimp (pe_unl (pe_tupleG (k := S.kf + (s.gen scope).lam) (own := ownS S scope) (gt := xG (G.wh h) ((ownS S scope).map (·.2)) (denG S n (s.gen scope) tg)) (tt := xT (G.wh h) WF (testsOf (denT S n (s.gen scope)) ifs)) (te := xE (G.wh h) WF (denE S n (s.gen scope) elt)) g.calm hr hgl hm rfl k1 k2 sp g.nd (fun h i => xG_imp h i) (ih.i g h tg it) (genfold_of hs _)
    (fun A sh H genv fp a o e r => pg_x fun k => ih.g (g.gen e r) k _ _ ho) (fun A sh H genv fp a o e r => pts_x fun k => tests_ok ih (g.gen e r) k _) (fun A sh H genv fp a o e r => pe_x fun k => ih.e (g.gen e r) k _))) fun σ H Q z => run_tupl (G := G.wh h) g.wc k3 hl z
theorem t_srt1 (ih : Snd S G n) (g : GX S G X W s) (h : List Addr) {elt tg it : Expr} {ifs : List Expr} {scope : Scope} {gp p pos : Pos} (hgl : Gl X "sorted") (hm : X.mg "sorted" = none) (ok : BlkOk X.N X.env.scope scope (ownS S scope)) (ho : ∀ i ∈ slotsOf S.N tg, i ∈ (ownS S scope).map (·.2)) (hs : disp' it = false) (hg : genOk S s scope gp = true) :
    PE X (.Call (.Name "sorted" p) [.GeneratorExp elt [⟨tg, it, ifs, 0⟩] scope gp] [] pos) (tE (G.wh h) W (genL ((ownS S scope).map (·.2)) (denI S n s tg it) (denG S n (s.gen scope) tg) (testsOf (denT S n (s.gen scope)) ifs) (denE S n (s.gen scope) elt) kSortS)) := by
  obtain ⟨sp, hcd, h2, hl⟩ := gscp_of g ok hg
  obtain ⟨c, P, q, k1, k2, k3⟩ := g.code hcd
  have hr : Room (S.kf + (s.gen scope).lam + 2) X.A := g.room.less (by show S.kf + (s.lam - 2) + 2 ≤ _; omega)
  exact PEimp (pe_unl (pe_sortedG (k := S.kf + (s.gen scope).lam) (own := ownS S scope) (gt := xG (G.wh h) ((ownS S scope).map (·.2)) (denG S n (s.gen scope) tg)) (tt := xT (G.wh h) WF (testsOf (denT S n (s.gen scope)) ifs)) (te := xE (G.wh h) WF (denE S n (s.gen scope) elt)) g.calm hr hgl hm rfl k1 k2 sp g.nd (fun h i => xG_imp h i) (ih.i g h tg it) (genfold_of hs _)
    (fun A sh H genv fp a o e r => pg_x fun k => ih.g (g.gen e r) k _ _ ho) (fun A sh H genv fp a o e r => pts_x fun k => tests_ok ih (g.gen e r) k _) (fun A sh H genv fp a o e r => pe_x fun k => ih.e (g.gen e r) k _))) fun σ H Q z => run_srt (G := G.wh h) g.wc k3 hl z
theorem snd_e (ih' : ∀ m, m ≤ n → Snd S G m) (g : GX S G X W s) (h : List Addr) (x : Expr) : PE X x (tE (G.wh h) W (denE S (n + 1) s x)) := by
  have hK : (G.wh h).K = X.K := g.K
  have hu : X.A.units + 1 < cLine := by have := g.u; omega
  have ih := ih' n (Nat.le_refl n)
  unfold denE
  split
  · exact t_val pe_int fun μ H => .int _
  · exact t_val pe_str fun μ H => .str _
  · exact t_val pe_bl fun μ H => .bl _
  · exact t_val pe_non fun μ H => .non
  · -- names
    split
    · rename_i hx
      split
      · rename_i d e
        exact s_glob g hx e
      · exact pe_stuck
    · exact pe_gd fun hx => s_name g hx
  · split
    · rename_i o e
      exact s_bin g e (ih.e g h _) (ih.e g h _)
    · exact pe_stuck
  · exact t_un un_neg d_neg (ih.e g h _)
  · exact t_notT hK (ih.e g h _)
  · exact t_one (ih.e g h _)
  · exact t_and hK (ih.e g h _) (ih.e g h _)
  · exact t_one (ih.e g h _)
  · exact t_or hK (ih.e g h _) (ih.e g h _)
  · exact t_if (ih.t g h _) (ih.e g h _) (ih.e g h _)
  · refine pe_gd fun hb => ?_
    obtain ⟨rr, h1, h2, h3⟩ := s_cmp g h _
    exact t_cmp h1 h2 (behind_of (not_t hb)) (ih.e g h _) (ih.e g h _)
  · refine pe_gd fun hb => ?_
    obtain ⟨rr, h1, h2, h3⟩ := s_cmp g h _
    obtain ⟨rr', k1, k2, k3⟩ := s_cmp g h _
    exact t_chain h1 k1 h3 h2 k2 (ih.e g h _) (ih.e g h _) (ih.e g h _) (behind_of (not_t hb))
  · exact t_lst (ih.a g h _)
  · exact t_tup (ih.a g h _)
  · exact t_dict0
  · refine pe_gd fun hb => ?_
    have b0 := and_l hb
    have b1 := and_l b0
    have hne : ∀ (l : List (Option Expr)), l.isEmpty = false → l ≠ [] := fun l z w => by subst w; cases z
    split
    · rename_i e
      exact t_dictC e (and_l b1) (of_decide_eq_true (and_r b1)) (of_decide_eq_true (and_r b0)) (hne _ (not_t (and_r hb)))
    · refine pe_gd fun hn => ?_
      exact t_dictM (trs_pps (fun m hm x => (ih' m (Nat.le_of_lt hm)).e g h x) (of_decide_eq_true (and_r b1)) (and_l b1) (of_decide_eq_true hn)) (and_l b1) (of_decide_eq_true (and_r b1)) (of_decide_eq_true (and_r b0)) (hne _ (not_t (and_r hb)))
  · exact t_rev hK (ih.e g h _)
  · exact t_slice hK (ih.e g h _) (ih.p g h _) (ih.p g h _)
  · refine pe_gd fun hb => ?_
    rw [g.kc]
    exact t_ix (G := G.wh h) hK hu (g.kd h) (ih.e g h _) (ih.e g h _) (not_t hb)
  · exact pe_gd fun hb => t_lam g h hb
  · split
    · rename_i k f x e
      refine pe_gd fun hb => ?_
      obtain ⟨t, j1, p1, p2, p3, p4, p5, j2, p6, p7, rfl, rfl, rfl, hgl, hT⟩ := badForm_eq e
      simp only [Bool.and_eq_true, decide_eq_true_eq, Bool.not_eq_true'] at hb
      obtain ⟨⟨⟨⟨⟨h1, h2⟩, h4⟩, h5⟩, h6⟩, h7⟩ := hb
      have ok := blkOk_by h4
      rw [← g.sc, ← g.N] at ok
      exact t_bad ih g h h1 h2 hgl hT ok h5 h6 h7
    · refine pe_gd fun hb => ?_
      have b1 := blkOk_by (and_l (and_l hb))
      rw [← g.sc, ← g.N] at b1
      exact t_comp (G := G.wh h) g.wc g.calm g.nd (ih.i g h _ _) b1 (fun sh H C cl fp k => ih.g (g.blk sh H _ cl C fp) k _ _ (inOwn_of (and_r (and_l hb)))) (fun sh H C cl fp k => tests_ok ih (g.blk sh H _ cl C fp) k _) (fun sh H C cl fp k => ih.e (g.blk sh H _ cl C fp) k _) (fold_of (not_t (and_r hb)) _)
  · refine pe_gd fun hb => ?_
    have b0 := and_l hb
    have b1 := blkOk_by (and_l (and_l (and_l b0)))
    rw [← g.sc, ← g.N] at b1
    exact t_comp2 (G := G.wh h) g.wc g.calm g.nd (ih.i g h _ _) b1 (inOwn_of (and_r (and_l b0))) (fun sh H C cl fp k => ih.g (g.blk sh H _ cl C fp) k _ _ (inOwn_of (and_r (and_l (and_l b0))))) (fun sh H C cl fp k => ih.i (g.blk sh H _ cl C fp) k _ _)
      (fun sh H C cl fp k => ih.g (g.blk sh H _ cl C fp) k _ _ fun i hi => hi) (fun sh H C cl fp k => tests_ok ih (g.blk sh H _ cl C fp) k _) (fun sh H C cl fp k => ih.e (g.blk sh H _ cl C fp) k _) (fold_of (not_t (and_r b0)) _) (fold_of (not_t (and_r hb)))
  · refine pe_gd fun hb => ?_
    have b0 := and_l hb
    have b1 := and_l b0
    have k := g.g1 (and_l (and_l b1))
    have hgl := (g.gl (and_l (and_l b1))).1
    unfold GlobOk at k
    have ok := blkOk_by (and_r (and_l b1))
    rw [← g.sc, ← g.N] at ok
    split
    · rename_i e; rw [e] at k; obtain ⟨z, k⟩ := k; subst z
      exact t_any1 ih g h hgl k ok (inOwn_of (and_r b1)) (not_t (and_r b0)) (and_r hb)
    · rename_i e; rw [e] at k; obtain ⟨z, k⟩ := k; subst z
      exact t_all1 ih g h hgl k ok (inOwn_of (and_r b1)) (not_t (and_r b0)) (and_r hb)
    · rename_i e; rw [e] at k; obtain ⟨⟨z, k⟩, _⟩ := k; subst z
      exact t_srt1 ih g h hgl k ok (inOwn_of (and_r b1)) (not_t (and_r b0)) (and_r hb)
    · rename_i e; rw [e] at k; obtain ⟨⟨z, k⟩, _⟩ := k; subst z
      exact t_tup1 ih g h hgl k ok (inOwn_of (and_r b1)) (not_t (and_r b0)) (and_r hb)
    · exact pe_stuck
  · refine pe_gd fun hb => ?_
    have k := g.g1 (and_l hb)
    have st := star1 (not_t (and_r hb))
    unfold GlobOk at k
    split
    · rename_i b e; rw [e] at k; exact snd_call1 ih g h k st (by simp)
    · rename_i b e; rw [e] at k; exact snd_call1 ih g h (fun h => (k h).2) st (by simp)
    · rename_i e; rw [e] at k; exact snd_call1 ih g h k.2 st (by simp)
    · rename_i e; rw [e] at k; exact snd_call1 ih g h k.2 st (by simp)
    · rename_i e; rw [e] at k; exact snd_call1 ih g h k st (by simp)
    · rename_i e; rw [e] at k; exact snd_call1 ih g h k st (by simp)
    · rename_i e; rw [e] at k
      refine pe_gd fun h2 => ?_
      simp only [Bool.and_eq_true, decide_eq_true_eq] at h2
      have q := g.gl (and_l hb)
      exact t_told ih g h q.1 q.2 h2.1 h2.2 k (not_t (and_r hb))
    · exact pe_stuck
  · refine pe_gd fun hb => ?_
    have k := g.g1 (and_l hb)
    have st := not_t (and_r hb)
    unfold GlobOk at k
    split
    · rename_i b e; rw [e] at k
      exact pe_gd fun ne => snd_call1 ih g h k st (fun z => by rw [z] at ne; cases ne)
    · rename_i args _ _ _ _ b e; rw [e] at k
      cases args with
      | cons a as => exact snd_call1 ih g h (fun h => (k h).2) st (by simp)
      | nil =>
        cases n with
        | zero => rw [denA]; exact ⟨fun pins s σ H Q I ⟨μ, ρ, st, q⟩ => q.post.elim⟩
        | succ n => rw [denA]; exact (k h).1 _ _
    · exact pe_stuck
  · refine pe_gd fun hb => ?_
    have b0 := and_l hb
    have b1 := and_l b0
    exact t_meth hK (ih.e g h _) (ih.a g h _) (base_of (and_l b1)) (of_decide_eq_true (and_r b1)) (and_r b0) (not_t (and_r hb))
  · exact pe_stuck
theorem tt_chain {op op' : CmpOp} {pos : Pos} {rr rr' : R2} {o o' : D → D → Store → R D} {a b c : Expr} {f k h : SE} (ho : OpR X (compareOp op) rr) (ho' : OpR X (compareOp op') rr') (hb1 : OpB o) (hb2 : OpB o') (hd : OpD G o rr) (hd' : OpD G o' rr')
    (ha : PE X a (tE G W f)) (hb : PE X b (tE G W k)) (hc : PE X c (tE G W h)) (hm : lastMarks [op, op'] [b, c] = false) : PT X (.Compare a [op, op'] [b, c] pos) (tT G W (tVal (sChain o o' f k h))) :=
  PTimp (pt_chain ho ho' ha hb hc hm) fun σ H Q ⟨μ, ρ, st, q⟩ => by
    have e : (tVal (sChain o o' f k h)) ρ st = ((f ρ st).bind fun a st1 => (k ρ st1).bind fun b st2 => (o a b st2).bind fun r st3 => match r with
        | .bl true => (h ρ st3).bind fun c st4 => (o' b c st4).bind fun d st3 => match truthy st3 d with | some b => .ok b st3 | none => .stuck
        | .bl false => .ok false st3
        | _ => .stuck) := by
      unfold tVal sChain
      cases f ρ st with
      | ok a st1 =>
        show R.bind (R.bind (k ρ st1) _) _ = R.bind (k ρ st1) _
        cases k ρ st1 with
        | ok b st2 =>
          show R.bind (R.bind (o a b st2) _) _ = R.bind (o a b st2) _
          cases o a b st2 with
          | ok r st3 =>
            cases r with
            | bl v =>
              cases v with
              | true =>
                show R.bind (R.bind (h ρ st3) _) _ = R.bind (h ρ st3) _
                cases h ρ st3 <;> rfl
              | false => rfl
            | _ => rfl
          | exn c st3 => rfl
          | stuck => rfl
        | exn c st2 => rfl
        | stuck => rfl
      | exn c st1 => rfl
      | stuck => rfl
    have q' : Run G W rpB μ ρ st σ H Q _ := e ▸ q
    refine ⟨μ, ρ, st, (Run.bind q').imp fun x H1 ⟨μ1, a, st1, s1, ra, q1⟩ => ⟨μ1, ρ, st1, (Run.bind q1).imp fun y H2 ⟨μ2, b, st2, s2, rb, q2⟩ => ?_⟩⟩
    refine hd (W := W) (ρ := ρ) (μ := μ2) (σ := σ) (st := st2) ?_ (ra.step s2 _ _) rb
    refine (Run.bind q2).imp fun z H3 ⟨μ3, r, st3, s3, rr3, q3⟩ => ?_
    cases rr3 with
    | bl v =>
      refine ⟨v, rfl, ?_⟩
      cases v with
      | true => exact ⟨μ3, ρ, st3, (Run.bind q3).imp fun w H4 ⟨μ4, c, st4, s4, rc, q4⟩ => hd' (run_bl hb2 q4) (rb.step (s3.trans s4) _ _) rc⟩
      | false => exact ⟨false, rfl, q3.val rfl⟩
    | _ => exact q3.post.elim
theorem snd_w (ih : Snd S G n) (g : GX S G X W s) (h : List Addr) (op : BoolOp) (vs : List Expr) (p : Pos) : PW X (.BoolOp op vs p) (tT (G.wh h) W (denT S (n + 1) s (.BoolOp op vs p))) := by
  unfold denT
  cases op with
  | And =>
    cases vs with
    | nil => exact pw_stuck
    | cons a r => cases r with
      | nil => exact tw_and1 (ih.t g h _)
      | cons b r => exact tw_and (ih.t g h _) (ih.w g h _ _ _)
  | Or =>
    cases vs with
    | nil => exact pw_stuck
    | cons a r => cases r with
      | nil => exact tw_or1 (ih.t g h _)
      | cons b r => exact tw_or (ih.t g h _) (ih.w g h _ _ _)
theorem snd_t (ih : Snd S G n) (g : GX S G X W s) (h : List Addr) (x : Expr) : PT X x (tT (G.wh h) W (denT S (n + 1) s x)) := by
  have hK : (G.wh h).K = X.K := g.K
  have w := snd_w ih g h
  unfold denT at w
  unfold denT
  split
  · exact tt_not (ih.t g h _)
  · exact (w _ _ _).pt
  · exact (w _ _ _).pt
  · exact (w _ _ _).pt
  · exact (w _ _ _).pt
  · exact pt_stuck
  · refine pt_gd fun hb => ?_
    obtain ⟨rr, h1, h2, h3⟩ := s_cmp g h _
    exact tt_cmp h3 h1 h2 (behind_of (not_t hb)) (ih.e g h _) (ih.e g h _)
  · refine pt_gd fun hb => ?_
    obtain ⟨rr, h1, h2, h3⟩ := s_cmp g h _
    obtain ⟨rr', k1, k2, k3⟩ := s_cmp g h _
    exact tt_chain h1 k1 h3 k3 h2 k2 (ih.e g h _) (ih.e g h _) (ih.e g h _) (behind_of (not_t hb))
  · exact pt_stuck
  · exact pt_stuck
  · rename_i hn h1 h2 h3 h4 h5 h6 h7 h8 h9
    refine t_truth hK (ih.e g h _) ?_
    cases x with
    | UnaryOp op a p => cases op <;> first | (intro _; rfl) | exact (hn _ _ rfl).elim
    | BoolOp op vs p => exact (by assumption : ∀ (o : BoolOp) (v : List Expr) (q : Pos), Expr.BoolOp op vs p = Expr.BoolOp o v q → False) _ _ _ rfl |>.elim
    | IfExp a b c p => exact (by assumption : ∀ (o v w : Expr) (q : Pos), Expr.IfExp a b c p = Expr.IfExp o v w q → False) _ _ _ _ rfl |>.elim
    | Compare a b c p => exact (by assumption : ∀ (o : Expr) (v : List CmpOp) (w : List Expr) (q : Pos), Expr.Compare a b c p = Expr.Compare o v w q → False) _ _ _ _ rfl |>.elim
    | _ => intro _; rfl
theorem snd_a (ih : Snd S G n) (g : GX S G X W s) (h : List Addr) (x : List Expr) : PA X x (tA (G.wh h) W (denA S (n + 1) s x)) := by
  cases x with
  | nil => rw [denA]; exact t_nil
  | cons e es => rw [denA]; exact pa_gd fun hs => t_cons (not_t hs) (ih.e g h _) (ih.a g h _)
theorem snd_p (ih : Snd S G n) (g : GX S G X W s) (h : List Addr) (x : Option Expr) : PO X x (tO' (G.wh h) W (denP S (n + 1) s x)) := by
  cases x with
  | none => rw [denP]; exact t_pnone
  | some e => rw [denP]; exact t_psome (ih.e g h _)
theorem snd_i (ih : Snd S G n) (g : GX S G X W s) (h : List Addr) (tg x : Expr) : PI X tg x (tI X (G.wh h) W (denI S (n + 1) s tg x)) := by
  have hK : (G.wh h).K = X.K := g.K
  unfold denI
  split
  · rename_i f p a pos
    by_cases hx : glOk s f = true
    · have k := g.g1 hx
      have hg := (g.gl hx).1
      unfold GlobOk at k
      simp only [hx, if_true]
      split
      · rename_i e; rw [e] at k; obtain ⟨rfl, k⟩ := k
        exact pi_gd fun hs => t_rng1 hg k (not_t hs) (ih.e g h _)
      · rename_i e; rw [e] at k; obtain ⟨rfl, k⟩ := k
        split
        · exact pi_gd fun hs => t_enum hK hg k (not_t hs) (ih.e g h _)
        · exact pi_stuck
      · exact t_ival hK (ih.e g h _)
    · simp only [hx, if_false]
      exact t_ival hK (ih.e g h _)
  · rename_i f p a b pos
    by_cases hx : glOk s f = true
    · have k := g.g1 hx
      have hg := (g.gl hx).1
      unfold GlobOk at k
      simp only [hx, if_true]
      split
      · rename_i e; rw [e] at k; obtain ⟨rfl, k⟩ := k
        exact pi_gd fun hs => t_rng2 hg k (not_t (and_l hs)) (not_t (and_r hs)) (ih.e g h _) (ih.e g h _)
      · rename_i e; rw [e] at k; obtain ⟨rfl, k⟩ := k
        split
        · exact pi_gd fun hs => t_zip hg k (not_t (and_l hs)) (not_t (and_r hs)) (ih.e g h _) (ih.e g h _)
        · exact pi_stuck
      · exact t_ival hK (ih.e g h _)
    · simp only [hx, if_false]
      exact t_ival hK (ih.e g h _)
  · rename_i f p a b c pos
    by_cases hx : glOk s f = true
    · have k := g.g1 hx
      have hg := (g.gl hx).1
      unfold GlobOk at k
      simp only [hx, if_true]
      split
      · rename_i e; rw [e] at k; obtain ⟨rfl, k⟩ := k
        exact pi_gd fun hs => t_rng3 hg k (not_t (and_l (and_l hs))) (not_t (and_r (and_l hs))) (not_t (and_r hs)) (ih.e g h _) (ih.e g h _) (ih.e g h _)
      · exact t_ival hK (ih.e g h _)
    · simp only [hx, if_false]
      exact t_ival hK (ih.e g h _)
  · exact t_ival hK (ih.e g h _)
theorem gName_ok (g : GX S G X W s) {h : List Addr} {vs : List Nat} {x : Str} {pos : Pos} (hv : S.N.idxOf x ∈ vs) : PG X (.Name x pos) (tGt (G.wh h) vs (if tgOk S s x then gName' (S.N.idxOf x) else fun _ _ => none)) := by
  split
  · rename_i ht
    unfold tgOk at ht
    simp only [Bool.and_eq_true, Bool.or_eq_true, beq_iff_eq, decide_eq_true_eq] at ht
    refine t_gname hv (pg_name g.nd (by rw [g.N]; exact ht.2) ?_ ?_)
    · rcases ht.1 with h | h
      · exact .inl (by rw [g.sc]; exact h)
      · exact .inr (by rw [g.sc]; exact h.1)
    · rcases ht.1 with h | h
      · exact .inr (by rw [g.sc]; exact h)
      · exact .inl (g.fn x h.2)
  · exact pg_stuck
theorem denGs_len (n : Nat) (es : List Expr) : (denGs S n s es).length = es.length := by
  induction es generalizing n with
  | nil => cases n <;> simp [denGs]
  | cons e es ih => cases n with
    | zero => simp [denGs]
    | succ n => simp [denGs, ih]
theorem pgs_none {h : List Addr} {vs : List Nat} {es : List Expr} (h0 : es.any star' = false) : PGs X es (tGts (G.wh h) vs (es.map fun _ => fun _ _ => none)) := by
  induction es with
  | nil => exact t_gnil
  | cons e es ih =>
    rw [List.any_cons, Bool.or_eq_false_iff] at h0
    exact t_gcons h0.1 pg_stuck (ih h0.2)
theorem snd_gs (ih : Snd S G n) (g : GX S G X W s) (h : List Addr) (vs : List Nat) (x : List Expr) (hv : ∀ y ∈ x, ∀ i ∈ slot1 S.N y, i ∈ vs) (h0 : x.any star' = false) : PGs X x (tGts (G.wh h) vs (denGs S (n + 1) s x)) := by
  cases x with
  | nil => rw [denGs]; exact t_gnil
  | cons e es =>
    rw [denGs]
    rw [List.any_cons, Bool.or_eq_false_iff] at h0
    refine t_gcons h0.1 ?_ (ih.gs g h vs es (fun y hy => hv y (List.mem_cons_of_mem _ hy)) h0.2)
    cases e with
    | Name x p => exact gName_ok g (hv _ (List.mem_cons_self ..) _ (List.mem_singleton.mpr rfl))
    | _ => exact pg_stuck
theorem gAll_none {es : List Expr} {ds : List D} {ρ ρ' : Lc} {gs : List SG} (e : gAll gs ds ρ = some ρ') : True := trivial
/-- starred targets have no word -/
theorem pgs_star {h : List Addr} {vs : List Nat} {es : List Expr} {k : Nat} {pos : Pos} {m : Nat} (h0 : es.any star' = true) : ∀ ds ρ, gAll (denGs S m s es) ds ρ = none := by
  induction es generalizing m with
  | nil => cases h0
  | cons e es ih =>
    intro ds ρ
    rw [List.any_cons, Bool.or_eq_true] at h0
    cases m with
    | zero =>
      cases ds with
      | nil => simp [denGs, gAll]
      | cons d ds => simp [denGs, gAll]
    | succ m =>
      cases ds with
      | nil => rw [denGs]; rfl
      | cons d ds =>
        rw [denGs]
        show (_ : Option Lc).bind _ = none
        rcases h0 with h0 | h0
        · cases e <;> first | rfl | cases h0
        · rw [show (fun ρ1 => gAll (denGs S m s es) ds ρ1) = fun _ => none from funext fun ρ1 => ih h0 ds ρ1]
          rw [Option.bind_eq_none_iff]
          exact fun _ _ => rfl
theorem snd_g (ih : Snd S G n) (g : GX S G X W s) (h : List Addr) (vs : List Nat) (x : Expr) (hv : ∀ i ∈ slotsOf S.N x, i ∈ vs) : PG X x (tGt (G.wh h) vs (denG S (n + 1) s x)) := by
  cases x with
  | Name x p => rw [denG]; exact gName_ok g (hv _ (List.mem_singleton.mpr rfl))
  | Tuple es k pos =>
    rw [denG]
    cases h0 : es.any star' with
    | true =>
      refine ⟨fun pins s2 σ H v u Q I r ⟨μ, ρ, d, ρ', l, rd, e, q⟩ => ?_⟩
      obtain ⟨ds, e1, e2⟩ := Option.bind_eq_some_iff.mp e
      rw [pgs_star (h := h) (vs := vs) (k := k) (pos := pos) h0] at e2
      cases e2
    | false =>
      refine t_gtup (G := G.wh h) g.K g.calm h0 (denGs_len _ _) (ih.gs g h vs es (fun y hy i hi => hv i (List.mem_flatMap.mpr ⟨y, hy, hi⟩)) h0)
  | _ => unfold denG; exact pg_stuck
theorem snd_zero : Snd S G 0 where
  e := fun g h x => by rw [denE]; exact pe_stuck
  t := fun g h x => by rw [denT]; exact pt_stuck
  w := fun g h op vs p => by rw [denT]; exact pw_stuck
  a := fun g h x => by rw [denA]; exact pa_stuck
  p := fun g h x => by rw [denP]; exact po_stuck
  i := fun g h tg x => by rw [denI]; exact pi_stuck
  g := fun g h vs x _ => by rw [denG]; exact pg_stuck
  gs := fun g h vs x _ h0 => by rw [denGs]; exact pgs_none h0
theorem snd_all (n : Nat) : Snd S G n := by
  induction n using Nat.strongRecOn with
  | ind n ih =>
    cases n with
    | zero => exact snd_zero
    | succ n =>
      have i := ih n (Nat.lt_succ_self n)
      exact ⟨snd_e fun m hm => ih m (Nat.lt_succ_of_le hm), snd_t i, snd_w i, snd_a i, snd_p i, snd_i i, snd_g i, snd_gs i⟩
end
end Bk

namespace Bk
open L2 PyProof.Rows PySem.Spec PySem

/-! ## What statements mean -/
def comp' : Expr → Bool
  | .ListComp .. => true
  | .SetComp .. => true
  | .DictComp .. => true
  | _ => false
def blkF (sc : Scope) : Bool := (if sc.kind.isAnnotationScope then ScopeKind.function else sc.kind) == .function
def locB (sc : Scope) (x : Str) : Bool := sc.names.lookup x == some .local
/-- a tuple of values is handed to names one by one: 0: as a tuple; 1: name by name; 2: no word -/
def parK (sc : Scope) (ts : List Expr) (vs : List Expr) : Nat := match ts, vs with
  | [.Name x px, .Name y py], [a, b] => if [a, b].all (foldedForSure 8) then 0 else if !(locB sc x && locB sc y && (py.line == px.line)) then 0 else if [a, b].all (constantsAlone 8) then 2 else if blkF sc && (x != y) && !star' a && !star' b then 1 else 2
  | [.Name x px, .Name y py, .Name z pz], [a, b, c] => if [a, b, c].all (foldedForSure 8) then 0 else if !(locB sc x && locB sc y && locB sc z && (py.line == px.line) && (pz.line == px.line)) then 0 else if [a, b, c].all (constantsAlone 8) then 2 else if blkF sc && (x != y) && (x != z) && (y != z) && !star' a && !star' b && !star' c then 1 else 2
  | ts, _ => if 3 < ts.length then 0 else 2
def parE (sc : Scope) (ts : List Expr) : Expr → Nat
  | .Tuple vs _ _ => parK sc ts vs
  | _ => 0
def gdS (b : Bool) (f : SS) : SS := fun ρ st => if b then f ρ st else .stuck
def sSetS (f g h : SE) : SS := fun ρ st => sE2 (f ρ st) fun v st1 => sE2 (g ρ st1) fun a st2 => sE2 (h ρ st2) fun k st3 => match dSet a k v st3 with
  | .ok _ st4 => .nx ρ st4
  | _ => .stuck
/-- x op= y -/
def augF : Operator → Option (D → D → Store → R D)
  | .Add => some fun a b st => match a with
    | .int i => (match b with
      | .int j => .ok (.int (i + j)) st
      | _ => .stuck)
    | .str x => (match b with
      | .str y => if x.length + y.length ≤ big then .ok (.str (x ++ y)) st else .stuck
      | _ => .stuck)
    | _ => .stuck
  | .Sub => some fun a b st => match a with
    | .int i => (match b with
      | .int j => .ok (.int (i - j)) st
      | _ => .stuck)
    | _ => .stuck
  | .Mod => some fun a b st => match a with
    | .int i => (match b with
      | .int j => if 0 < j then .ok (.int (i % j)) st else .stuck
      | _ => .stuck)
    | _ => .stuck
  | _ => none
def sAugS (i : Nat) (op : D → D → Store → R D) (f : SE) : SS := fun ρ st => match ρ[i]? with
  | some (some a) => sE2 (f ρ st) fun b st1 => sE2 (op a b st1) fun d st2 => match gName' i d ρ with
    | some ρ1 => .nx ρ1 st2
    | none => .stuck
  | _ => .stuck
def stuckS : SS := fun _ _ => .stuck
def notBad (S : SEnv) (s : Scp) : Expr → Bool
  | .ListComp elt [⟨tg, _, ifs, 0⟩] scope _ => (badForm S (s.rel scope) elt tg ifs).isNone
  | _ => true
def nmT (S : SEnv) (s : Scp) : Expr → Bool
  | .Name x _ => tgOk S s x
  | _ => false
mutual
def denS (S : SEnv) : Nat → Scp → Stmt → SS
  | 0, _, _ => stuckS
  | n + 1, sc, s => match s with
    | .Return (some e) _ => fun ρ st => sE2 (denE S n sc e ρ st) fun d st1 => .rt d st1
    | .Pass _ => fun ρ st => .nx ρ st
    | .Break _ => fun ρ st => .bk ρ st
    | .Continue _ => fun ρ st => .ct ρ st
    | .Expr e _ => gdS (!comp' e) fun ρ st => sE2 (denE S n sc e ρ st) fun _ st1 => .nx ρ st1
    | .Assign [.Name x _] e _ => gdS (tgOk S sc x && notBad S sc e) (sAsg (denE S n sc e) (gName' (S.N.idxOf x)))
    | .Assign [.Tuple ts _ _] e _ => gdS (ts.all (nmT S sc) && decide (parE sc.sc ts e < 2)) (sAsg (denE S n sc e) (gTup' (ts.map (headG S sc))))
    | .Assign [.Subscript o i _] e _ => gdS (!slice' i) (sSetS (denE S n sc e) (denE S n sc o) (denE S n sc i))
    | .AugAssign (.Name x _) op e _ => gdS (tgOk S sc x) (match augF op with
      | some f => sAugS (S.N.idxOf x) f (denE S n sc e)
      | none => stuckS)
    | .If c a b _ => sIfS (denT S n sc c) (denSs S n sc a) (denSs S n sc b)
    | .For tg it body [] _ => gdS (!set' it) (sForS (denI S n sc tg it) (denG S n sc tg) (denSs S n sc body))
    | .While c body [] _ => whileN (denT S n sc c) (denSs S n sc body) fuelW
    | .Raise (some (.Call (.Name x _) [.Constant (.str _) _ _] [] _)) none _ => if glOk sc x then (match S.glob x with
      | .exc c => fun _ st => .exn c st
      | _ => stuckS) else stuckS
    | _ => stuckS
def denSs (S : SEnv) : Nat → Scp → List Stmt → SS
  | 0, _, _ => stuckS
  | _ + 1, _, [] => fun ρ st => .nx ρ st
  | n + 1, sc, s :: ss => fun ρ st => (denS S n sc s ρ st).then fun ρ1 st1 => denSs S n sc ss ρ1 st1
end
section
variable {S : SEnv} {G : Gl0} {X : Cx} {W : WX} {s : Scp} {n : Nat}
theorem ps_stuck {st : Stmt} : PS X st (tS G W stuckS) := ⟨fun pins s σ H D I ⟨μ, ρ, st, q⟩ => q.post.elim⟩
theorem pss_stuck {st : List Stmt} : PSs X st (tS G W stuckS) := ⟨fun pins s σ H D I ⟨μ, ρ, st, q⟩ => q.post.elim⟩
theorem ps_gd {st : Stmt} {b : Bool} {f : SS} (h : b = true → PS X st (tS G W f)) : PS X st (tS G W (gdS b f)) := by
  cases b with
  | true => exact h rfl
  | false => exact ps_stuck
/-! stores into lists and dicts -/
def rSetX : TSet := fun o i v H Q => rSetL o i v H Q ∨ rSetD o i v H Q
theorem set_X (hu : X.A.units + 1 < cLine) : PSet X rSetX := fun pins s σ H o i v ov iv u Q I r1 r2 r3 h => h.elim (set_list pins s σ H o i v ov iv u Q I r1 r2 r3) (set_dict hu pins s σ H o i v ov iv u Q I r1 r2 r3)
theorem RepL.set {μ : List Addr} {H : Hp} {ds : List D} {vs : List V} (r : RepL G μ H ds vs) {d : D} {v : V} (rd : Rep G μ H d v) (j : Nat) : RepL G μ H (ds.set j d) (vs.set j v) := by
  induction ds generalizing vs j with
  | nil => cases r; exact .nil
  | cons e ds ih => cases r with
    | cons h t => cases j with
      | zero => exact .cons rd t
      | succ j => exact .cons h (ih t j)
theorem d_set {μ : List Addr} {st st' : Store} {H : Hp} {a i v : D} {x y z : V} {Q : Hp → Prop} (S : Sim G μ st H) (e : dSet a i v st = .ok () st') (ra : Rep G μ H a x) (ri : Rep G μ H i y) (rv : Rep G μ H v z)
    (q : ∀ H', Step μ H μ H' → Sim G μ st' H' → Q H') : rSetX x y z H Q := by
  unfold dSet at e
  split at e
  · rename_i l
    cases ra with
    | ref hl =>
      split at e
      · rename_i ds e1
        obtain ⟨vs, h1, h2⟩ := S.obj _ _ _ e1 hl
        have hn : ∀ o u', H _ ≠ some (.frz o u') := fun o u' z => by rw [h1] at z; cases z
        split at e
        · split at e
          · rename_i j e3
            cases e
            cases ri
            refine .inl ⟨_, vs, _, j, rfl, rfl, h1, by rw [← h2.len]; exact e3, ?_⟩
            exact q _ (step_put (List.mem_of_getElem? hl) hn) (S.put hl hn ⟨_, upd_same, (h2.set rv j).step (step_put (List.mem_of_getElem? hl) hn) _ _⟩)
          · cases e
        · cases e
      · rename_i kvs e1
        obtain ⟨vs, h1, _, h2⟩ := S.obj _ _ _ e1 hl
        have h1 := h1 rfl
        have hn : ∀ o u', H _ ≠ some (.frz o u') := fun o u' z => by rw [h1] at z; cases z
        split at e
        · rename_i k ek
          split at e
          · rename_i hlt
            cases e
            have hl2 : vs.length = kvs.length := h2.len.symm
            refine .inr ⟨_, _, rfl, .inl ⟨vs, k, h1, keyOf_rep ek ri, by rw [hl2, ← big_eq]; exact hlt, rfl⟩, ?_⟩
            exact q _ (step_put (List.mem_of_getElem? hl) hn) (S.put hl hn ⟨_, fun _ => upd_same, fun z => (by cases z), (put_rep h2 rv).step (step_put (List.mem_of_getElem? hl) hn) _ _⟩)
          · cases e
        · cases e
      · cases e
  · cases e
theorem gSub_ok {o i : Expr} {f g : SE} (hu : X.A.units + 1 < cLine) (ho : PE X o (tE G W f)) (hi : PE X i (tE G W g)) {pos : Pos} (hs : slice' i = false) : PG X (.Subscript o i pos) (gSub (tE G W f) (tE G W g) rSetX) :=
  pg_sub ho hi (set_X hu) (fun v => by cases i <;> first | rfl | cases hs)
end
end Bk

namespace Bk
open L2 PyProof.Rows PySem.Spec PySem
def RaiseOk (G : Gl0) (Y : Cx) (x : Str) (c : Nat) : Prop := ∀ m j p p2 pos, PMk Y (.Call (.Name x p) [.Constant (.str m) j p2] [] pos) (fun _ H Q => Q (.ref (G.exc c)) none H)
structure GXS (S : SEnv) (G : Gl0) (X : Cx) (W : WX) (s : Scp) : Prop where
  x : GX S G X W s
  po : PassesOwn (model X.prog X.w) X.A X.env X.xe
  ra : ∀ y c, Gl X y → dbgB y = false → S.glob y = .exc c → RaiseOk G X y c
structure SndS (S : SEnv) (G : Gl0) (n : Nat) : Prop where
  s : ∀ {X W s}, GXS S G X W s → ∀ h x, PS X x (tS (G.wh h) W (denS S n s x))
  ss : ∀ {X W s}, GXS S G X W s → ∀ h x, PSs X x (tS (G.wh h) W (denSs S n s x))
section
variable {S : SEnv} {G : Gl0} {X : Cx} {W : WX} {s : Scp} {n : Nat}
theorem swaps_plain {e : Expr} {t : Option Expr} {l : Nat} {env : Env} (h : comp' e = false) : swapsWith e t l env = pure false := by
  cases e <;> first | rfl | cases h
theorem loc_of (g : GX S G X W s) {x : Str} (h : tgOk S s x = true) : X.N[S.N.idxOf x]? = some x ∧ Loc X.env.scope x ∧ (X.fn x = true ∨ X.env.scope.names.lookup x = some .local) := by
  unfold tgOk at h
  simp only [Bool.and_eq_true, Bool.or_eq_true, beq_iff_eq, decide_eq_true_eq] at h
  refine ⟨by rw [g.N]; exact h.2, ?_, ?_⟩
  · rcases h.1 with h | h
    · exact .inl (by rw [g.sc]; exact h)
    · exact .inr (by rw [g.sc]; exact h.1)
  · rcases h.1 with h | h
    · exact .inr (by rw [g.sc]; exact h)
    · exact .inl (g.fn x h.2)
/-- does a comprehension swap with its name? -/
theorem swaps_lc {elt : Expr} {gs : List Comprehension} {scope : Scope} {pos py : Pos} {y : Str} {l : Nat} {env : Env} : ∃ b, swapsWith (.ListComp elt gs scope pos) (some (.Name y py)) l env = pure b ∧ (b = true → env.scope.names.lookup y = some .local) := by
  refine ⟨env.blockKind == .function && env.kindOf y == some .local && py.line == pos.line && !(scope.names.any fun (n, k) => n == y && (k == .local || k == .cell)), rfl, fun h => ?_⟩
  have := and_r (and_l (and_l h))
  exact beq_iff_eq.mp this
theorem asg_stuck {st : Stmt} {g : SG} : PS X st (tS G W (sAsg stuckE g)) := ⟨fun pins s σ H D I ⟨μ, ρ, st, q⟩ => q.post.elim⟩
theorem asg_gd {st : Stmt} {b : Bool} {f : SE} {g : SG} (h : b = true → PS X st (tS G W (sAsg f g))) : PS X st (tS G W (sAsg (gd b f) g)) := by
  cases b with
  | true => exact h rfl
  | false => exact asg_stuck
/-- x = [.. for .. for ..] -/
theorem ts_setLc2 {m : Bool} {i : Nat} {y : Str} {py : Pos} {elt tg iter tg1 iter1 : Expr} {ifs1 : List Expr} {scope : Scope} {own : List (Str × Nat)} {vs1 : List Nat} {pos spos : Pos} {fi fi1 : SI} {g g1 : SG} {t : ST} {f : SE} (wc : WCl X W) (hc : X.calm = true) (hN : X.N.Nodup) (hy : X.N[i]? = some y) (hyl : X.env.scope.names.lookup y = some .local)
    (hsw : swapsWith (.ListComp elt [⟨tg, iter, [], 0⟩, ⟨tg1, iter1, ifs1, 0⟩] scope pos) (some (.Name y py)) spos.line X.env = pure true) (hi : PI X tg iter (tI X G W fi)) (ok : BlkOk X.N X.env.scope scope own) (hv : ∀ i ∈ vs1, i ∈ own.map (·.2))
    (hg : ∀ (s : Shared) (H : Hp) (C : Addr) (cl : List (Str × Addr)) (fp : List Addr) h, PG (X.blk s H scope (compEnvC scope cl C X.env) fp) tg (tGt (G.wh h) (own.map (·.2)) g))
    (hi1 : ∀ (s : Shared) (H : Hp) (C : Addr) (cl : List (Str × Addr)) (fp : List Addr) h, PI (X.blk s H scope (compEnvC scope cl C X.env) fp) tg1 iter1 (tI (X.blk s H scope (compEnvC scope cl C X.env) fp) (G.wh h) WF fi1))
    (hg1 : ∀ (s : Shared) (H : Hp) (C : Addr) (cl : List (Str × Addr)) (fp : List Addr) h, PG (X.blk s H scope (compEnvC scope cl C X.env) fp) tg1 (tGt (G.wh h) vs1 g1))
    (ht : ∀ (s : Shared) (H : Hp) (C : Addr) (cl : List (Str × Addr)) (fp : List Addr) h, PTs (X.blk s H scope (compEnvC scope cl C X.env) fp) ifs1 (tT (G.wh h) WF t))
    (he : ∀ (s : Shared) (H : Hp) (C : Addr) (cl : List (Str × Addr)) (fp : List Addr) h, PE (X.blk s H scope (compEnvC scope cl C X.env) fp) elt (tE (G.wh h) WF f)) (hs : ∀ x, foldedSetIterable iter X.env x = pure x) (hs1 : ∀ env x, foldedSetIterable iter1 env x = pure x) :
    PS X (.Assign [.Name y py] (.ListComp elt [⟨tg, iter, [], 0⟩, ⟨tg1, iter1, ifs1, 0⟩] scope pos) spos) (tS G W (sAsg (sComp2 m (own.map (·.2)) vs1 fi g fi1 g1 t f) (gName' i))) := by
  have h := ps_setLc2 hc hN hy hyl hsw hi ok hv (fun s H C cl fp => pg_x (hg s H C cl fp)) (fun s H C cl fp => pts_x (G := G) (W := WF) (f := fun _ st => .ok true st) fun _ => pts_yes) (fun s H C cl fp => pi_x (hi1 s H C cl fp)) (fun s H C cl fp => pg_x (hg1 s H C cl fp)) (fun s H C cl fp => pts_x (ht s H C cl fp)) (fun s H C cl fp => pe_x (he s H C cl fp)) hs hs1
  refine PSimp' (ps_unl h) fun D σ H ⟨μ, ρ, st, q⟩ => ?_
  exact run_lc2 (m := m) (Q := fun v H2 => D.nx (σ.set i (some v)) H2) wc ⟨μ, ρ, st, (RunS.bindE (r := sComp2 m (own.map (·.2)) vs1 fi g fi1 g1 t f ρ st) q).imp fun x H1 ⟨μ1, d, st1, s1, r, q1⟩ => by
    unfold gName' at q1
    split at q1
    · rename_i ρ1 e
      split at e
      · cases e
        exact q1.post μ1 _ H1 (Step.refl _ _) q1.sim (q1.lo.set r)
      · cases e
    · exact q1.post.elim⟩
theorem snd_asgN (ih : ∀ m, m ≤ n → Snd S G m) (g : GX S G X W s) (h : List Addr) {x : Str} {px pos : Pos} {e : Expr} (ht : tgOk S s x = true) (hnb : notBad S s e = true) : PS X (.Assign [.Name x px] e pos) (tS (G.wh h) W (sAsg (denE S n s e) (gName' (S.N.idxOf x)))) := by
  obtain ⟨h1, h2, h3⟩ := loc_of g ht
  have plain : ∀ {e : Expr}, swapsWith e (some (.Name x px)) pos.line X.env = pure false → PE X e (tE (G.wh h) W (denE S n s e)) → PS X (.Assign [.Name x px] e pos) (tS (G.wh h) W (sAsg (denE S n s e) (gName' (S.N.idxOf x)))) := fun hs he => ts_asgN (ps_set g.nd h1 h2 he hs h3)
  have E : PE X e (tE (G.wh h) W (denE S n s e)) := (ih n (Nat.le_refl n)).e g h e
  have no : ∀ {e : Expr}, denE S n s e = stuckE → PS X (.Assign [.Name x px] e pos) (tS (G.wh h) W (sAsg (denE S n s e) (gName' (S.N.idxOf x)))) := fun he => by
    rw [he]
    exact ⟨fun pins s σ H D I ⟨μ, ρ, st, q⟩ => q.post.elim⟩
  cases hc : comp' e with
  | false => exact plain (swaps_plain hc) E
  | true =>
    cases e with
    | ListComp elt gens scope vpos =>
      obtain ⟨b, hb, hl⟩ := swaps_lc (elt := elt) (gs := gens) (scope := scope) (pos := vpos) (py := px) (y := x) (l := pos.line) (env := X.env)
      cases b with
      | false => exact plain hb E
      | true =>
        cases n with
        | zero => exact no (by rw [denE])
        | succ n =>
          have i := ih n (Nat.le_succ n)
          unfold denE
          split <;> first | (rename_i he; cases he; done) | skip
          · rename_i e1 tg it ifs scope1 p1 he
            cases he
            rw [Option.isNone_iff_eq_none.mp hnb]
            refine asg_gd fun hb2 => ?_
            have b1 := blkOk_by (and_l (and_l hb2))
            rw [← g.sc, ← g.N] at b1
            exact ts_setLc (G := G.wh h) g.wc g.calm g.nd h1 (hl rfl) hb (i.i g h _ _) b1 (fun sh H C cl fp k => i.g (g.blk sh H _ cl C fp) k _ _ (inOwn_of (and_r (and_l hb2)))) (fun sh H C cl fp k => tests_ok i (g.blk sh H _ cl C fp) k _) (fun sh H C cl fp k => i.e (g.blk sh H _ cl C fp) k _) (fold_of (not_t (and_r hb2)) _)
          · rename_i e1 tg it tg2 it2 ifs scope1 p1 he
            cases he
            refine asg_gd fun hb2 => ?_
            have b0 := and_l hb2
            have b1 := blkOk_by (and_l (and_l (and_l b0)))
            rw [← g.sc, ← g.N] at b1
            exact ts_setLc2 (G := G.wh h) g.wc g.calm g.nd h1 (hl rfl) hb (i.i g h _ _) b1 (inOwn_of (and_r (and_l b0))) (fun sh H C cl fp k => i.g (g.blk sh H _ cl C fp) k _ _ (inOwn_of (and_r (and_l (and_l b0))))) (fun sh H C cl fp k => i.i (g.blk sh H _ cl C fp) k _ _)
              (fun sh H C cl fp k => i.g (g.blk sh H _ cl C fp) k _ _ fun i hi => hi) (fun sh H C cl fp k => tests_ok i (g.blk sh H _ cl C fp) k _) (fun sh H C cl fp k => i.e (g.blk sh H _ cl C fp) k _) (fold_of (not_t (and_r b0)) _) (fold_of (not_t (and_r hb2)))
          · exact asg_stuck
    | _ => 
      cases n with
      | zero => exact no (by rw [denE])
      | succ n => first | (exact no (by unfold denE; rfl)) | (cases hc; done)
theorem kind_of (g : GX S G X W s) (y : Str) : X.env.kindOf y = s.sc.names.lookup y := by show X.env.scope.names.lookup y = _; rw [g.sc]
theorem blk_of (g : GX S G X W s) (h : blkF s.sc = true) : X.env.blockKind = .function := by
  show (if X.env.scope.kind.isAnnotationScope then ScopeKind.function else X.env.scope.kind) = _
  rw [g.sc]
  unfold blkF at h
  exact beq_iff_eq.mp h
theorem loc_b (g : GX S G X W s) {y : Str} (h : locB s.sc y = true) : X.env.kindOf y = some .local := by
  rw [kind_of g]
  unfold locB at h
  exact beq_iff_eq.mp h
/-- one by one, or not -/
theorem sw_none3 {ts vs : List Expr} {k1 k2 : Nat} {p1 p2 : Pos} {env : Env} (h : vs.all (foldedForSure 8) = true) : swappedStores [.Tuple ts k1 p1] (.Tuple vs k2 p2) env = pure none := by
  unfold swappedStores
  dsimp only
  simp only [h, if_true]
  split
  · rfl
  · split
    · rfl
    · split <;> rfl
theorem sw_long {ts vs : List Expr} {k1 k2 : Nat} {p1 p2 : Pos} {env : Env} (h : 3 < ts.length) : swappedStores [.Tuple ts k1 p1] (.Tuple vs k2 p2) env = pure none := by
  have e : (!(ts.length == 2 || ts.length == 3)) = true := by
    have h2 : (ts.length == 2) = false := by simp; omega
    have h3 : (ts.length == 3) = false := by simp; omega
    rw [h2, h3]; rfl
  unfold swappedStores
  dsimp only
  rw [e]
  rfl
theorem sw_else {tg : Expr} {e : Expr} {env : Env} (h : ∀ vs k p, e ≠ .Tuple vs k p) : swappedStores [tg] e env = pure none := by
  unfold swappedStores
  cases tg <;> first | rfl | (cases e <;> first | rfl | exact absurd rfl (h _ _ _))
theorem sw_two {x y : Str} {px py p1 p2 : Pos} {a b : Expr} {k1 k2 : Nat} {env : Env} (hb : env.blockKind = .function) (hx : env.kindOf x = some .local) (hy : env.kindOf y = some .local) (hl : (py.line == px.line) = true) (hne : (x != y) = true) (ha : star' a = false) (hbb : star' b = false)
    (h1 : [a, b].all (foldedForSure 8) = false) (h2 : [a, b].all (constantsAlone 8) = false) : swappedStores [.Tuple [.Name x px, .Name y py] k1 p1] (.Tuple [a, b] k2 p2) env = pure (some [x, y]) := by
  unfold swappedStores
  have e1 : (env.blockKind != .function) = false := by rw [hb]; rfl
  have e2 : (px.line == px.line) = true := beq_self_eq_true _
  have n1 : x ≠ y := by simpa using hne
  have n2 : ([x, y] : List Str).eraseDups.length = 2 := by simp [List.eraseDups_cons, n1, Ne.symm n1]
  have l1 : ((Expr.Name x px).pos.line) = px.line := rfl
  have hl2 : py.line = px.line := by simpa using hl
  dsimp only
  rw [e1]
  simp only [List.length_cons, List.length_nil]
  rw [if_neg (by decide)]
  rw [if_neg (by
    intro hs
    simp only [List.any_cons, List.any_nil, Bool.or_false, Bool.or_eq_true] at hs
    rcases hs with hs | hs
    · revert hs; cases a <;> first | (intro hs; cases hs; done) | cases ha
    · revert hs; cases b <;> first | (intro hs; cases hs; done) | cases hbb)]
  have hf : ∀ (F : Expr → Option Str), F (.Name x px) = some x → F (.Name y py) = some y → List.filterMap F [.Name x px, .Name y py] = [x, y] := fun F f1 f2 => by simp [List.filterMap_cons, f1, f2]
  rw [hf _ (by simp [hx, l1]) (by simp [hy, l1, hl2])]
  rw [if_neg (by rw [n2]; simp), h1, h2]
  rfl
theorem sw_three {x y z : Str} {px py pz p1 p2 : Pos} {a b c : Expr} {k1 k2 : Nat} {env : Env} (hb : env.blockKind = .function) (hx : env.kindOf x = some .local) (hy : env.kindOf y = some .local) (hz : env.kindOf z = some .local) (hl : (py.line == px.line) = true) (hl' : (pz.line == px.line) = true)
    (hxy : (x != y) = true) (hxz : (x != z) = true) (hyz : (y != z) = true) (ha : star' a = false) (hbb : star' b = false) (hcc : star' c = false)
    (h1 : [a, b, c].all (foldedForSure 8) = false) (h2 : [a, b, c].all (constantsAlone 8) = false) : swappedStores [.Tuple [.Name x px, .Name y py, .Name z pz] k1 p1] (.Tuple [a, b, c] k2 p2) env = pure (some [x, y, z]) := by
  unfold swappedStores
  have e1 : (env.blockKind != .function) = false := by rw [hb]; rfl
  have n1 : x ≠ y := by simpa using hxy
  have n2 : x ≠ z := by simpa using hxz
  have n3 : y ≠ z := by simpa using hyz
  have n4 : ([x, y, z] : List Str).eraseDups.length = 3 := by simp [List.eraseDups_cons, n1, n2, n3, Ne.symm n1, Ne.symm n2, Ne.symm n3]
  have l1 : ((Expr.Name x px).pos.line) = px.line := rfl
  have hl2 : py.line = px.line := by simpa using hl
  have hl3 : pz.line = px.line := by simpa using hl'
  dsimp only
  rw [e1]
  simp only [List.length_cons, List.length_nil]
  rw [if_neg (by decide)]
  rw [if_neg (by
    intro hs
    simp only [List.any_cons, List.any_nil, Bool.or_false, Bool.or_eq_true] at hs
    rcases hs with hs | hs | hs
    · revert hs; cases a <;> first | (intro hs; cases hs; done) | cases ha
    · revert hs; cases b <;> first | (intro hs; cases hs; done) | cases hbb
    · revert hs; cases c <;> first | (intro hs; cases hs; done) | cases hcc)]
  have hf : ∀ (F : Expr → Option Str), F (.Name x px) = some x → F (.Name y py) = some y → F (.Name z pz) = some z → List.filterMap F [.Name x px, .Name y py, .Name z pz] = [x, y, z] := fun F f1 f2 f3 => by simp [List.filterMap_cons, f1, f2, f3]
  rw [hf _ (by simp [hx, l1]) (by simp [hy, l1, hl2]) (by simp [hz, l1, hl3])]
  rw [if_neg (by rw [n4]; simp), h1, h2]
  rfl
theorem beq_loc (g : GX S G X W s) {y : Str} (h : locB s.sc y = false) : (X.env.kindOf y == some .local) = false := by
  rw [kind_of g]; exact h
theorem sw_part {ts vs : List Expr} {k1 k2 : Nat} {p1 p2 : Pos} {env : Env} (h : ∀ F : Expr → Option Str, (∀ e, F e = match e with
      | .Name id pos => if (env.kindOf id == some .local && pos.line == (ts.head?.map (·.pos.line)).getD 0) = true then some id else none
      | _ => none) → (ts.filterMap F).length ≠ ts.length) : swappedStores [.Tuple ts k1 p1] (.Tuple vs k2 p2) env = pure none := by
  unfold swappedStores
  dsimp only
  split
  · rfl
  · split
    · rfl
    · rw [if_pos]
      rw [Bool.or_eq_true]
      left
      refine bne_iff_ne.mpr (h _ fun e => ?_)
      cases e <;> rfl
theorem fm_lt {ts : List Expr} {F : Expr → Option Str} {e : Expr} (hm : e ∈ ts) (h : F e = none) : (ts.filterMap F).length ≠ ts.length := by
  induction ts with
  | nil => cases hm
  | cons x xs ih =>
    have hle : (xs.filterMap F).length ≤ xs.length := List.length_filterMap_le F xs
    rcases List.mem_cons.mp hm with z | z
    · subst z
      rw [List.filterMap_cons_none h, List.length_cons]
      omega
    · have := ih z
      cases q : F x with
      | none => rw [List.filterMap_cons_none q, List.length_cons]; omega
      | some w => rw [List.filterMap_cons_some q, List.length_cons, List.length_cons]; omega
theorem nm_star {es : List Expr} (h : es.all (nmT S s) = true) : es.any star' = false := by
  induction es with
  | nil => rfl
  | cons e es ih =>
    rw [List.all_cons, Bool.and_eq_true] at h
    rw [List.any_cons, ih h.2]
    cases e <;> first | rfl | (cases h.1)
theorem pgs_head (g : GX S G X W s) {h : List Addr} {vs : List Nat} {es : List Expr} (hv : ∀ i ∈ es.flatMap (slot1 S.N), i ∈ vs) (h0 : es.any star' = false) : PGs X es (tGts (G.wh h) vs (es.map (headG S s))) := by
  induction es with
  | nil => exact t_gnil
  | cons e es ih =>
    rw [List.any_cons, Bool.or_eq_false_iff] at h0
    rw [List.map_cons]
    refine t_gcons h0.1 ?_ (ih (fun i hi => hv i (by rw [List.flatMap_cons]; exact List.mem_append_right _ hi)) h0.2)
    cases e with
    | Name x p => exact gName_ok g (hv _ (by rw [List.flatMap_cons]; exact List.mem_append_left _ (List.mem_singleton.mpr rfl)))
    | _ => exact pg_stuck
theorem ts_par {x y : Str} {a b : Expr} {fa : SA} {px py pt pos : Pos} {kt k2 pt2} {i j : Nat} {h : List Addr} (h1 : PS X (.Assign [.Tuple [.Name x px, .Name y py] kt pt] (.Tuple [a, b] k2 pt2) pos) (tPar i j (tA (G.wh h) W fa))) :
    PS X (.Assign [.Tuple [.Name x px, .Name y py] kt pt] (.Tuple [a, b] k2 pt2) pos) (tS (G.wh h) W (sAsg (fun ρ st => (fa ρ st).bind fun ds st1 => mkT ds st1) (gTup' [gName' i, gName' j]))) := by
  refine PSimp' h1 fun D σ H ⟨μ, ρ, st, q⟩ => ⟨μ, ρ, st, q.sim, q.lo, ?_⟩
  have p : PostS (G.wh h) W D μ H (sE2 ((fa ρ st).bind fun ds st1 => mkT ds st1) fun d st1 => match gTup' [gName' i, gName' j] d ρ with
    | some ρ1 => .nx ρ1 st1
    | none => .stuck) := q.post
  cases e : fa ρ st with
  | exn c st1 => rw [e] at p; exact fun μ1 H1 s S => p μ1 σ H1 s S
  | stuck => rw [e] at p; exact p
  | ok ds st1 =>
    rw [e] at p
    have p2 : PostS (G.wh h) W D μ H (sE2 (mkT ds st1) fun d st1 => match gTup' [gName' i, gName' j] d ρ with
      | some ρ1 => .nx ρ1 st1
      | none => .stuck) := p
    unfold mkT at p2
    split at p2
    · intro μ1 H1 vs s1 S1 r
      have p3 : PostS (G.wh h) W D μ H (match gAll [gName' i, gName' j] ds ρ with
        | some ρ1 => .nx ρ1 st1
        | none => .stuck) := p2
      cases ds with
      | nil => exact p3.elim
      | cons d ds => cases ds with
        | nil =>
          have : gAll [gName' i, gName' j] [d] ρ = none := by
            show (gName' i d ρ).bind _ = none
            rw [Option.bind_eq_none_iff]
            exact fun _ _ => rfl
          rw [this] at p3
          exact p3.elim
        | cons d2 ds => cases ds with
          | cons d3 ds =>
            have : gAll [gName' i, gName' j] (d :: d2 :: d3 :: ds) ρ = none := by
              show (gName' i d ρ).bind _ = none
              rw [Option.bind_eq_none_iff]
              intro ρ1 _
              show (gName' j d2 ρ1).bind _ = none
              rw [Option.bind_eq_none_iff]
              exact fun _ _ => rfl
            rw [this] at p3
            exact p3.elim
          | nil =>
            cases r with
            | cons ra r => cases r with
              | cons rb r =>
                cases r
                refine ⟨_, _, rfl, ?_⟩
                have l1 : Lo (G.wh h) μ1 ρ σ H1 := q.lo.step s1
                have g1 : ∀ (i : Nat) (d : Bk.D) (ρ ρ' : Lc), gName' i d ρ = some ρ' → ρ' = ρ.set i (some d) := fun i d ρ ρ' e => by
                  unfold gName' at e
                  split at e <;> cases e
                  rfl
                cases e1 : gName' i d ρ with
                | none =>
                  have : gAll [gName' i, gName' j] [d, d2] ρ = none := by show (gName' i d ρ).bind _ = none; rw [e1]; rfl
                  rw [this] at p3; exact p3.elim
                | some ρ1 =>
                  cases e2 : gName' j d2 ρ1 with
                  | none =>
                    have : gAll [gName' i, gName' j] [d, d2] ρ = none := by
                      show (gName' i d ρ).bind _ = none
                      rw [e1]
                      show (gName' j d2 ρ1).bind _ = none
                      rw [e2]; rfl
                    rw [this] at p3; exact p3.elim
                  | some ρ2 =>
                    have : gAll [gName' i, gName' j] [d, d2] ρ = some ρ2 := by
                      show (gName' i d ρ).bind _ = _
                      rw [e1]
                      show (gName' j d2 ρ1).bind _ = _
                      rw [e2]; rfl
                    rw [this] at p3
                    have z1 := g1 _ _ _ _ e1
                    have z2 := g1 _ _ _ _ e2
                    subst z1 z2
                    exact p3 μ1 _ H1 s1 S1 ((l1.set ra).set rb)
    · exact p2.elim
theorem gn_set {i : Nat} {d : D} {ρ ρ' : Lc} (e : gName' i d ρ = some ρ') : ρ' = ρ.set i (some d) := by
  unfold gName' at e
  split at e <;> cases e
  rfl
theorem gall3 {i j l : Nat} {ds : List D} {ρ ρ' : Lc} (e : gAll [gName' i, gName' j, gName' l] ds ρ = some ρ') : ∃ a b c, ds = [a, b, c] ∧ ρ' = ((ρ.set i (some a)).set j (some b)).set l (some c) := by
  cases ds with
  | nil => cases e
  | cons a ds =>
    obtain ⟨ρ1, e1, e⟩ := Option.bind_eq_some_iff.mp e
    cases ds with
    | nil => cases e
    | cons b ds =>
      obtain ⟨ρ2, e2, e⟩ := Option.bind_eq_some_iff.mp e
      cases ds with
      | nil => cases e
      | cons c ds =>
        obtain ⟨ρ3, e3, e⟩ := Option.bind_eq_some_iff.mp e
        cases ds with
        | cons d ds => cases e
        | nil =>
          cases e
          rw [gn_set e1] at e2
          rw [gn_set e2] at e3
          exact ⟨a, b, c, rfl, gn_set e3⟩
theorem ts_par3 {x y z : Str} {a b c : Expr} {fa : SA} {px py pz pt pos : Pos} {kt k2 pt2} {i j l : Nat} {h : List Addr} (h1 : PS X (.Assign [.Tuple [.Name x px, .Name y py, .Name z pz] kt pt] (.Tuple [a, b, c] k2 pt2) pos) (tPar3 i j l (tA (G.wh h) W fa))) :
    PS X (.Assign [.Tuple [.Name x px, .Name y py, .Name z pz] kt pt] (.Tuple [a, b, c] k2 pt2) pos) (tS (G.wh h) W (sAsg (fun ρ st => (fa ρ st).bind fun ds st1 => mkT ds st1) (gTup' [gName' i, gName' j, gName' l]))) := by
  refine PSimp' h1 fun D σ H ⟨μ, ρ, st, q⟩ => ⟨μ, ρ, st, q.sim, q.lo, ?_⟩
  have p : PostS (G.wh h) W D μ H (sE2 ((fa ρ st).bind fun ds st1 => mkT ds st1) fun d st1 => match gTup' [gName' i, gName' j, gName' l] d ρ with
    | some ρ1 => .nx ρ1 st1
    | none => .stuck) := q.post
  cases e : fa ρ st with
  | exn c st1 => rw [e] at p; exact fun μ1 H1 s S => p μ1 σ H1 s S
  | stuck => rw [e] at p; exact p
  | ok ds st1 =>
    rw [e] at p
    have p2 : PostS (G.wh h) W D μ H (sE2 (mkT ds st1) fun d st1 => match gTup' [gName' i, gName' j, gName' l] d ρ with
      | some ρ1 => .nx ρ1 st1
      | none => .stuck) := p
    unfold mkT at p2
    split at p2
    · intro μ1 H1 vs s1 S1 r
      have p3 : PostS (G.wh h) W D μ H (match gAll [gName' i, gName' j, gName' l] ds ρ with
        | some ρ1 => .nx ρ1 st1
        | none => .stuck) := p2
      cases e1 : gAll [gName' i, gName' j, gName' l] ds ρ with
      | none => rw [e1] at p3; exact p3.elim
      | some ρ' =>
        rw [e1] at p3
        obtain ⟨a, b, c, rfl, rfl⟩ := gall3 e1
        cases r with
        | cons ra r => cases r with
          | cons rb r => cases r with
            | cons rc r =>
              cases r
              have l1 : Lo (G.wh h) μ1 ρ σ H1 := q.lo.step s1
              exact ⟨_, _, _, rfl, p3 μ1 _ H1 s1 S1 (((l1.set ra).set rb).set rc)⟩
    · exact p2.elim
/-- a[i] = v -/
theorem ts_setS {o i e : Expr} {f k m : SE} {tpos pos : Pos} (hu : X.A.units + 1 < cLine) (hs : slice' i = false) (he : PE X e (tE G W f)) (ho : PE X o (tE G W k)) (hi : PE X i (tE G W m)) (hsw : swapsWithSole [.Subscript o i tpos] e pos.line X.env = pure false) : PS X (.Assign [.Subscript o i tpos] e pos) (tS G W (sSetS f k m)) := by
  refine PSimp' (ps_asg he (gSub_ok hu ho hi hs) hsw (by unfold swappedStores; cases e <;> rfl)) fun D σ H ⟨μ, ρ, st, q⟩ => ⟨μ, ρ, st, (RunS.bindE (r := f ρ st) q).imp fun v H1 ⟨μ1, dv, st1, s1, rv, q1⟩ => ⟨μ1, ρ, st1, (RunS.bindE (r := k ρ st1) q1).imp fun x H2 ⟨μ2, da, st2, s2, ra, q2⟩ => ⟨μ2, ρ, st2, (RunS.bindE (r := m ρ st2) q2).imp fun y H3 ⟨μ3, di, st3, s3, ri, q3⟩ => ?_⟩⟩⟩
  cases e3 : dSet da di dv st3 with
  | exn c st4 => rw [e3] at q3; exact q3.post.elim
  | stuck => rw [e3] at q3; exact q3.post.elim
  | ok u st4 =>
    rw [e3] at q3
    exact d_set q3.sim e3 (ra.step s3 _ _) ri (rv.step (s2.trans s3) _ _) fun H' s S => q3.post μ3 σ H' s S (q3.lo.step s)
/-- x op= e -/
theorem ip_of {op : Operator} {o : D → D → Store → R D} (e : augF op = some o) : ∃ ti, PIp X op ti ∧ ∀ {W : WX} {μ ρ st σ H a b x y Q}, Run G W (Rep G) μ ρ st σ H Q (o a b st) → Rep G μ H a x → Rep G μ H b y → ti x y H Q := by
  cases op <;> first | (cases e; done) | (cases e)
  · refine ⟨fun x y H Q => rI0 (fun i j => .int (i + j)) x y H Q ∨ ∃ i j, x = .str i ∧ y = .str j ∧ i.length + j.length ≤ sizeLine ∧ Q (.str (i ++ j)) H, fun pins s σ H x y v u Q I rx ry h => h.elim (augR iop_add I rx ry) (augR iop_add_str I rx ry), ?_⟩
    intro W μ ρ st σ H a b x y Q q ra rb
    dsimp only at q
    split at q
    · split at q
      · cases ra; cases rb
        exact .inl ⟨_, _, rfl, rfl, q.val (.int _)⟩
      · exact q.post.elim
    · split at q
      · split at q
        · rename_i hl
          cases ra; cases rb
          exact .inr ⟨_, _, rfl, rfl, dec_len hl, q.val (.str _)⟩
        · exact q.post.elim
      · exact q.post.elim
    · exact q.post.elim
  · refine ⟨_, fun pins s σ H x y v u Q I rx ry h => augR iop_sub I rx ry h, ?_⟩
    intro W μ ρ st σ H a b x y Q q ra rb
    dsimp only at q
    split at q
    · split at q
      · cases ra; cases rb
        exact ⟨_, _, rfl, rfl, q.val (.int _)⟩
      · exact q.post.elim
    · exact q.post.elim
  · refine ⟨_, fun pins s σ H x y v u Q I rx ry h => augR iop_mod I rx ry h, ?_⟩
    intro W μ ρ st σ H a b x y Q q ra rb
    dsimp only at q
    split at q
    · split at q
      · split at q
        · rename_i hl
          cases ra; cases rb
          exact ⟨_, _, rfl, rfl, hl, q.val (.int _)⟩
        · exact q.post.elim
      · exact q.post.elim
    · exact q.post.elim
theorem ts_aug {i : Nat} {x : Str} {e : Expr} {f : SE} {op : Operator} {o : D → D → Store → R D} {pos' pos : Pos} (ho : augF op = some o) (h : ∀ ti, PIp X op ti → PS X (.AugAssign (.Name x pos') op e pos) (tAug i (tE G W f) ti)) : PS X (.AugAssign (.Name x pos') op e pos) (tS G W (sAugS i o f)) := by
  obtain ⟨ti, h1, h2⟩ := ip_of (X := X) (G := G) ho
  refine PSimp' (h ti h1) fun D σ H ⟨μ, ρ, st, q⟩ => ?_
  have p : RunS G W D μ ρ st σ H (sAugS i o f ρ st) := q
  unfold sAugS at p
  split at p
  · rename_i a e1
    obtain ⟨v, k1, k2⟩ := q.lo.at' _ _ e1
    refine ⟨v, k1, μ, ρ, st, (RunS.bindE (r := f ρ st) p).imp fun y H1 ⟨μ1, b, st1, s1, rb, q1⟩ => h2 (RunS.bindE (r := o a b st1) q1 |>.imp fun z H2 ⟨μ2, d, st2, s2, rd, q2⟩ => ?_) (k2.step s1 _ _) rb⟩
    cases eg : gName' i d ρ with
    | none => rw [eg] at q2; exact q2.post.elim
    | some ρ1 =>
      rw [eg] at q2
      rw [gn_set eg] at q2
      exact q2.post μ2 _ H2 (Step.refl _ _) q2.sim (q2.lo.set rd)
  · exact p.post.elim
theorem ts_raise {x m : Str} {j c : Nat} {p p2 pos rpos : Pos} (g : GXS S G X W s) {h : List Addr} (hx : glOk s x = true) (e : S.glob x = .exc c) : PS X (.Raise (some (.Call (.Name x p) [.Constant (.str m) j p2] [] pos)) none rpos) (tS (G.wh h) W fun _ st => .exn c st) :=
  PSimp' (ps_raise g.x.calm g.x.tk (g.ra x c (g.x.gl hx).1 (g.x.gl hx).2 e m j p p2 pos)) fun D σ H ⟨μ, ρ, st, q⟩ => q.post μ σ H (Step.refl _ _) q.sim
theorem ne_idx {x y : Str} {N : List Str} {i j : Nat} (h1 : N[i]? = some x) (h2 : N[j]? = some y) (h : (x != y) = true) : i ≠ j := fun z => by
  subst z
  rw [h1] at h2
  cases h2
  simp at h
theorem sole_tup {ts : List Expr} {k l : Nat} {p : Pos} {e : Expr} {env : Env} : swapsWithSole [.Tuple ts k p] e l env = pure false := by
  unfold swapsWithSole
  cases e <;> rfl
theorem loc_l {x : Str} (g : GX S G X W s) (h : locB s.sc x = true) : X.env.scope.names.lookup x = some .local := loc_b g h
theorem head_n {x : Str} {p : Pos} (h : nmT S s (.Name x p) = true) : headG S s (.Name x p) = gName' (S.N.idxOf x) := by
  unfold headG
  exact if_pos (show tgOk S s x = true from h)
theorem snd_asgT (g : GXS S G X W s) (h : List Addr) {ts : List Expr} {k : Nat} {tp pos : Pos} {e : Expr} (ht : ts.all (nmT S s) = true) (hp : parE s.sc ts e < 2) : PS X (.Assign [.Tuple ts k tp] e pos) (tS (G.wh h) W (sAsg (denE S n s e) (gTup' (ts.map (headG S s))))) := by
  have iE := snd_all (S := S) (G := G) n
  have gen : swappedStores [.Tuple ts k tp] e X.env = pure none → PS X (.Assign [.Tuple ts k tp] e pos) (tS (G.wh h) W (sAsg (denE S n s e) (gTup' (ts.map (headG S s))))) := fun hw =>
    ts_asg (vs := ts.flatMap (slot1 S.N)) (ps_asg (iE.e g.x h e) (t_gtup (G := G.wh h) g.x.K g.x.calm (nm_star ht) (by simp) (pgs_head g.x (fun i hi => hi) (nm_star ht))) sole_tup hw rfl)
  cases e with
  | Tuple vs k2 p2 =>
    cases n with
    | zero => rw [denE]; exact asg_stuck
    | succ m =>
      have iA := snd_all (S := S) (G := G) m
      have hd : denE S (m + 1) s (.Tuple vs k2 p2) = fun ρ st => (denA S m s vs ρ st).bind fun ds st1 => mkT ds st1 := by unfold denE; rfl
      replace hp : parK s.sc ts vs < 2 := hp
      unfold parK at hp
      split at hp
      · rename_i x px y py a b
        split at hp
        · rename_i hf; exact gen (sw_none3 hf)
        · rename_i hf
          split at hp
          · rename_i hn
            refine gen (sw_part fun F hF => ?_)
            have hn := not_t hn
            rw [Bool.and_eq_false_iff, Bool.and_eq_false_iff] at hn
            rcases hn with (hn | hn) | hn
            · exact fm_lt (e := .Name x px) (by simp) (by rw [hF]; simp [beq_loc g.x hn])
            · exact fm_lt (e := .Name y py) (by simp) (by rw [hF]; simp [beq_loc g.x hn])
            · exact fm_lt (e := .Name y py) (by simp) (by rw [hF]; have l1 : (Expr.Name x px).pos.line = px.line := rfl; simp [hn, l1])
          · rename_i hn
            have hn : (locB s.sc x && locB s.sc y && (py.line == px.line)) = true := by simpa using hn
            split at hp
            · exact absurd hp (by decide)
            · rename_i hc
              split at hp
              · rename_i hh
                have q1 := and_l hh
                have q2 := and_l q1
                simp only [List.all_cons, List.all_nil, Bool.and_true, Bool.and_eq_true] at ht
                obtain ⟨a1, a2, a3⟩ := loc_of g.x (show tgOk S s x = true from ht.1)
                obtain ⟨b1, b2, b3⟩ := loc_of g.x (show tgOk S s y = true from ht.2)
                rw [hd, List.map_cons, List.map_cons, List.map_nil, head_n ht.1, head_n ht.2]
                have lx := and_l (and_l hn)
                have ly := and_r (and_l hn)
                exact ts_par (ps_par g.x.calm g.x.nd a1 b1 (ne_idx a1 b1 (and_r q2)) (loc_l g.x lx) (loc_l g.x ly) (iA.a g.x h [a, b]) (sw_two (blk_of g.x (and_l q2)) (loc_b g.x lx) (loc_b g.x ly) (and_r hn) (and_r q2) (not_t (and_r q1)) (not_t (and_r hh)) (by simpa using hf) (by simpa using hc)) sole_tup)
              · exact absurd hp (by decide)
      · rename_i x px y py z pz a b c
        split at hp
        · rename_i hf; exact gen (sw_none3 hf)
        · rename_i hf
          split at hp
          · rename_i hn
            refine gen (sw_part fun F hF => ?_)
            have hn := not_t hn
            have l1 : (Expr.Name x px).pos.line = px.line := rfl
            rw [Bool.and_eq_false_iff, Bool.and_eq_false_iff, Bool.and_eq_false_iff, Bool.and_eq_false_iff] at hn
            rcases hn with (((hn | hn) | hn) | hn) | hn
            · exact fm_lt (e := .Name x px) (by simp) (by rw [hF]; simp [beq_loc g.x hn])
            · exact fm_lt (e := .Name y py) (by simp) (by rw [hF]; simp [beq_loc g.x hn])
            · exact fm_lt (e := .Name z pz) (by simp) (by rw [hF]; simp [beq_loc g.x hn])
            · exact fm_lt (e := .Name y py) (by simp) (by rw [hF]; simp [hn, l1])
            · exact fm_lt (e := .Name z pz) (by simp) (by rw [hF]; simp [hn, l1])
          · rename_i hn
            have hn : (locB s.sc x && locB s.sc y && locB s.sc z && (py.line == px.line) && (pz.line == px.line)) = true := by simpa using hn
            split at hp
            · exact absurd hp (by decide)
            · rename_i hc
              split at hp
              · rename_i hh
                have q1 := and_l hh
                have q2 := and_l q1
                have q3 := and_l q2
                have q4 := and_l q3
                have q5 := and_l q4
                have n1 := and_l hn
                have n2 := and_l n1
                have n3 := and_l n2
                simp only [List.all_cons, List.all_nil, Bool.and_true, Bool.and_eq_true] at ht
                obtain ⟨a1, a2, a3⟩ := loc_of g.x (show tgOk S s x = true from ht.1)
                obtain ⟨b1, b2, b3⟩ := loc_of g.x (show tgOk S s y = true from ht.2.1)
                obtain ⟨c1, c2, c3⟩ := loc_of g.x (show tgOk S s z = true from ht.2.2)
                rw [hd, List.map_cons, List.map_cons, List.map_cons, List.map_nil, head_n ht.1, head_n ht.2.1, head_n ht.2.2]
                exact ts_par3 (ps_par3 g.x.calm g.x.nd a1 b1 c1 (ne_idx a1 b1 (and_r q5)) (ne_idx a1 c1 (and_r q4)) (ne_idx b1 c1 (and_r q3)) (loc_l g.x (and_l n3)) (loc_l g.x (and_r n3)) (loc_l g.x (and_r n2)) (iA.a g.x h [a, b, c])
                  (sw_three (blk_of g.x (and_l q5)) (loc_b g.x (and_l n3)) (loc_b g.x (and_r n3)) (loc_b g.x (and_r n2)) (and_r n1) (and_r hn) (and_r q5) (and_r q4) (and_r q3) (not_t (and_r q2)) (not_t (and_r q1)) (not_t (and_r hh)) (by simpa using hf) (by simpa using hc)) sole_tup)
              · exact absurd hp (by decide)
      · split at hp
        · rename_i hl; exact gen (sw_long hl)
        · exact absurd hp (by decide)
  | _ => exact gen (sw_else (fun _ _ _ z => nomatch z))
theorem snd_s (ih : SndS S G n) (g : GXS S G X W s) (h : List Addr) (x : Stmt) : PS X x (tS (G.wh h) W (denS S (n + 1) s x)) := by
  have hu : X.A.units + 1 < cLine := by have := g.x.u; omega
  have iE := snd_all (S := S) (G := G) n
  unfold denS
  split
  · exact ts_ret (iE.e g.x h _)
  · exact ts_pass
  · exact ts_brk
  · exact ts_cont
  · exact ps_gd fun hc => ts_expr (iE.e g.x h _) (swaps_plain (not_t hc))
  · exact ps_gd fun ht => snd_asgN (fun m _ => snd_all m) g.x h (and_l ht) (and_r ht)
  · exact ps_gd fun ht => snd_asgT g h (and_l ht) (of_decide_eq_true (and_r ht))
  · refine ps_gd fun ht => ?_
    exact ts_setS hu (not_t ht) (iE.e g.x h _) (iE.e g.x h _) (iE.e g.x h _) (by unfold swapsWithSole; cases ‹Expr› <;> rfl)
  · refine ps_gd fun ht => ?_
    obtain ⟨h1, h2, h3⟩ := loc_of g.x ht
    split
    · rename_i o e
      exact ts_aug e fun ti hti => ps_aug g.x.nd h1 h2 (iE.e g.x h _) hti h3
    · exact ps_stuck
  · exact ts_if (iE.t g.x h _) (ih.ss g h _) (ih.ss g h _)
  · refine ps_gd fun ht => ?_
    exact ts_for g.po g.x.calm g.x.wc (iE.i g.x h _ _) (iE.g g.x h _ _ fun i hi => hi) (ih.ss g h _) (fold_of (not_t ht) _)
  · exact ts_while g.po (iE.t g.x h _) (ih.ss g h _)
  · split
    · rename_i hx
      split
      · rename_i c e
        exact ts_raise g hx e
      · exact ps_stuck
    · exact ps_stuck
  · exact ps_stuck
theorem snd_ss (ih : SndS S G n) (g : GXS S G X W s) (h : List Addr) (x : List Stmt) : PSs X x (tS (G.wh h) W (denSs S (n + 1) s x)) := by
  cases x with
  | nil => rw [denSs]; exact ts_nil
  | cons e es => rw [denSs]; exact ts_cons (ih.s g h e) (ih.ss g h es)
theorem snds_all (n : Nat) : SndS S G n := by
  induction n with
  | zero => exact ⟨fun g h x => by rw [denS]; exact ps_stuck, fun g h x => by rw [denSs]; exact pss_stuck⟩
  | succ n ih => exact ⟨snd_s ih, snd_ss ih⟩
end
end Bk

namespace Bk
open L2 PyProof.Rows PySem.Spec PySem

/-! ## Defs -/
/-- a value whose changeable things stand below n, without closures -/
def noRef (n : Nat) : D → Bool
  | .ref l => decide (l < n)
  | .clo _ _ => false
  | .tup ds => noRefs n ds
  | .lst ds => noRefs n ds
  | .ktup ds => noRefs n ds
  | .dK kvs => noRefK n kvs
  | .dT kvs => noRefT n kvs
  | _ => true
where
  noRefs (n : Nat) : List D → Bool
    | [] => true
    | d :: ds => noRef n d && noRefs n ds
  noRefK (n : Nat) : List (Key × D) → Bool
    | [] => true
    | (_, d) :: ds => noRef n d && noRefK n ds
  noRefT (n : Nat) : List (List Key × D) → Bool
    | [] => true
    | (_, d) :: ds => noRef n d && noRefT n ds
def okObj (n : Nat) : SObj → Bool
  | .lst ds => noRef.noRefs n ds
  | .dK _ kvs => noRef.noRefK n kvs
  | .dT _ kvs => noRef.noRefT n kvs
  | .ins _ fs => noRef.noRefs n (fs.map (·.2))
def okSt (n : Nat) (st : Store) : Bool := st.all (okObj n)
/-- what a def made for itself alone goes -/
def leave (esc : Bool) (n : Nat) (d : D) (st : Store) : R D :=
  if esc then .ok d st else if st.length = n then .ok d st else
  match d with
  | .ref l => if l < n then (if okSt n (st.take n) then .ok d (st.take n) else .stuck) else (match st[l]? with
    | some (.lst ds) => if noRef.noRefs n ds && okSt n (st.take n) then .ok (.lst ds) (st.take n) else .stuck
    | some (.dK false kvs) => if noRef.noRefK n kvs && okSt n (st.take n) then .ok (.dK kvs) (st.take n) else .stuck
    | some (.dT false kvs) => if noRef.noRefT n kvs && okSt n (st.take n) then .ok (.dT kvs) (st.take n) else .stuck
    | _ => .stuck)
  | d => if noRef n d && okSt n (st.take n) then .ok d (st.take n) else .stuck
def leaveX (esc : Bool) (n : Nat) (c : Nat) (st : Store) : R D := if esc then .exn c st else if st.length = n then .exn c st else if okSt n (st.take n) then .exn c (st.take n) else .stuck
/-- a def that makes lambdas takes and hands back none -/
def bar (lamF : Bool) (r : R D) : R D := if lamF then (match r with
  | .ok d st => if noRef st.length d && okSt st.length st then .ok d st else .stuck
  | .exn c st => if okSt st.length st then .exn c st else .stuck
  | .stuck => .stuck) else r
def semF (S : SEnv) (esc lamF genF : Bool) (fuel np : Nat) (sc : Scope) (body : List Stmt) : Fn := fun ds st =>
  if ds.length = np ∧ (lamF = true → noRef.noRefs st.length ds = true ∧ okSt st.length st = true) then
    bar lamF (match denSs S fuel ⟨sc, fun _ => true, 4, genF, lamF⟩ body (ds.map some ++ List.replicate (S.N.length - np) none) st with
    | .rt d st1 => leave esc st.length d st1
    | .nx _ st1 => leave esc st.length .non st1
    | .exn c st1 => leaveX esc st.length c st1
    | _ => .stuck)
  else .stuck

/-! ### the lambdas of a def, in their order -/
mutual
def lamE : Nat → Expr → List (Pos × Scope × Expr)
  | 0, _ => []
  | n + 1, e => match e with
    | .BoolOp _ vs _ => lamEs n vs
    | .BinOp a _ b _ => lamE n a ++ lamE n b
    | .UnaryOp _ a _ => lamE n a
    | .Lambda _ b sc p => [(p, sc, b)]
    | .IfExp a b c _ => lamE n a ++ lamE n b ++ lamE n c
    | .Dict _ vs _ => lamEs n vs
    | .Compare a _ bs _ => lamE n a ++ lamEs n bs
    | .Call f as _ _ => lamE n f ++ lamEs n as
    | .Attribute a _ _ => lamE n a
    | .Subscript a b _ => lamE n a ++ lamE n b
    | .List es _ => lamEs n es
    | .Tuple es _ _ => lamEs n es
    | .ListComp e _ _ _ => lamE n e
    | _ => []
def lamEs : Nat → List Expr → List (Pos × Scope × Expr)
  | 0, _ => []
  | _, [] => []
  | n + 1, e :: es => lamE n e ++ lamEs n es
end
def lamS : Nat → List Stmt → List (Pos × Scope × Expr)
  | 0, _ => []
  | _, [] => []
  | n + 1, s :: ss => (match s with
    | .Return (some e) _ => lamE n e
    | .Assign _ e _ => lamE n e
    | .AugAssign _ _ e _ => lamE n e
    | .Expr e _ => lamE n e
    | .If c a b _ => lamE n c ++ lamS n a ++ lamS n b
    | .For _ it b _ _ => lamE n it ++ lamS n b
    | .While c b _ _ => lamE n c ++ lamS n b
    | _ => []) ++ lamS n ss
def lamsOf (b : List Stmt) : List (Pos × Scope × Expr) := lamS 100 b

end Bk

namespace Bk
open L2 PyProof.Rows PySem.Spec PySem

/-! ## Defs: what a def makes for itself goes; other closures -/
abbrev Gl0.lm (G : Gl0) (CL : Scope → Expr → Addr → Addr → Heap → Prop) (lq : Str) : Gl0 := { G with CL := CL, lq := lq }
section
variable {G : Gl0} {CL : Scope → Expr → Addr → Addr → Heap → Prop} {lq : Str} {μ μ' ν : List Addr} {st : Store} {H H' : Hp} {n : Nat}
theorem fz_low {a : Addr} (h : Fz G (μ ++ ν) a) : Fz (G.lm CL lq) μ a := ⟨fun m => h.1 (List.mem_append_left _ m), h.2⟩
mutual
theorem Rep.low (hn : μ.length = n) : ∀ (d : D) (v : V), noRef n d = true → Rep G (μ ++ ν) H d v → Rep (G.lm CL lq) μ H d v
  | .non, _, _, h => by cases h; exact .non
  | .bl b, _, _, h => by cases h; exact .bl b
  | .int i, _, _, h => by cases h; exact .int i
  | .str x, _, _, h => by cases h; exact .str x
  | .tup ds, _, k, h => by
    cases h with
    | tup h0 h1 h2 => exact .tup (fz_low h0) h1 (RepL.low hn ds _ (by simpa [noRef] using k) h2)
  | .ktup ds, _, k, h => by
    cases h with
    | ktup h1 h2 => exact .ktup h1 (RepL.low hn ds _ (by simpa [noRef] using k) h2)
  | .lst ds, _, k, h => by
    cases h with
    | lst h0 h1 h2 => exact .lst (fz_low h0) h1 (RepL.low hn ds _ (by simpa [noRef] using k) h2)
  | .dK kvs, _, k, h => by
    cases h with
    | dK h0 h1 h2 => exact .dK (fz_low h0) h1 (RepP.low hn kvs _ (by simpa [noRef] using k) h2)
  | .dT kvs, _, k, h => by
    cases h with
    | dT h0 h1 h2 => exact .dT (fz_low h0) h1 (RepQ.low hn kvs _ (by simpa [noRef] using k) h2)
  | .ref l, _, k, h => by
    cases h with
    | ref e =>
      have k : l < n := by simpa [noRef] using k
      rw [List.getElem?_append_left (by rw [hn]; exact k)] at e
      exact .ref e
  | .clo _ _, _, k, _ => by cases k
  | .scr ns, _, _, h => by
    cases h with
    | scr h0 h1 => exact .scr (fz_low h0) h1
    | scrK h => exact .scrK h
  | .kd i, _, _, h => by cases h; exact .kd i
theorem RepL.low (hn : μ.length = n) : ∀ (ds : List D) (vs : List V), noRef.noRefs n ds = true → RepL G (μ ++ ν) H ds vs → RepL (G.lm CL lq) μ H ds vs
  | [], _, _, h => by cases h; exact .nil
  | d :: ds, _, k, h => by
    cases h with
    | cons h1 h2 =>
      have k : noRef n d = true ∧ noRef.noRefs n ds = true := by simpa [noRef.noRefs] using k
      exact .cons (Rep.low hn d _ k.1 h1) (RepL.low hn ds _ k.2 h2)
theorem RepP.low (hn : μ.length = n) : ∀ (ds : List (Key × D)) (vs : List (Key × V)), noRef.noRefK n ds = true → RepP G (μ ++ ν) H ds vs → RepP (G.lm CL lq) μ H ds vs
  | [], _, _, h => by cases h; exact .nil
  | (k', d) :: ds, _, k, h => by
    cases h with
    | cons h1 h2 =>
      have k : noRef n d = true ∧ noRef.noRefK n ds = true := by simpa [noRef.noRefK] using k
      exact .cons (Rep.low hn d _ k.1 h1) (RepP.low hn ds _ k.2 h2)
theorem RepQ.low (hn : μ.length = n) : ∀ (ds : List (List Key × D)) (vs : List (List Key × V)), noRef.noRefT n ds = true → RepQ G (μ ++ ν) H ds vs → RepQ (G.lm CL lq) μ H ds vs
  | [], _, _, h => by cases h; exact .nil
  | (k', d) :: ds, _, k, h => by
    cases h with
    | cons h1 h2 =>
      have k : noRef n d = true ∧ noRef.noRefT n ds = true := by simpa [noRef.noRefT] using k
      exact .cons (Rep.low hn d _ k.1 h1) (RepQ.low hn ds _ k.2 h2)
end
theorem ObjR.low (hn : μ.length = n) {a : Addr} {o : SObj} (k : okObj n o = true) (h : ObjR G (μ ++ ν) H a o) : ObjR (G.lm CL lq) μ H a o := by
  cases o with
  | lst ds => obtain ⟨vs, e, r⟩ := h; exact ⟨vs, e, RepL.low hn _ _ k r⟩
  | dK lk kvs => obtain ⟨vs, e1, e2, r⟩ := h; exact ⟨vs, e1, e2, RepP.low hn _ _ k r⟩
  | dT lk kvs => obtain ⟨vs, e1, e2, r⟩ := h; exact ⟨vs, e1, e2, RepQ.low hn _ _ k r⟩
  | ins c fs => obtain ⟨dx, vs, e1, e2, r⟩ := h; exact ⟨dx, vs, e1, e2, RepL.low hn _ _ k r⟩
theorem Sim.low (S : Sim G (μ ++ ν) st H) (hn : μ.length = n) (k : okSt n (st.take n) = true) : Sim (G.lm CL lq) μ (st.take n) H where
  len := by have := S.len; rw [List.length_append] at this; rw [List.length_take]; omega
  nd := (List.nodup_append.mp S.nd).1
  obj := fun l o a h1 h2 => by
    have hm := List.all_eq_true.mp k o (List.mem_of_getElem? h1)
    have hl : l < n := by rw [← hn]; exact (List.getElem?_eq_some_iff.mp h2).1
    rw [List.getElem?_take_of_lt hl] at h1
    exact (S.obj l o a h1 (by rw [List.getElem?_append_left (by rw [hn]; exact hl)]; exact h2)).low hn hm
  tab := S.tab
  hid := fun a ha => ⟨fun m => (S.hid a ha).1 (List.mem_append_left _ m), (S.hid a ha).2⟩
theorem Step.low (s : Step μ H (μ ++ ν) H') : Step μ H μ H' := ⟨⟨[], by simp, by simp⟩, s.keep, s.keepD, s.there, s.lock⟩
theorem Gl0.lm_self : G.lm G.CL G.lq = G := rfl
theorem Gl0.lm_lm {CL' : Scope → Expr → Addr → Addr → Heap → Prop} {lq' : Str} : (G.lm CL' lq').lm G.CL G.lq = G := rfl
variable {σ : Sl} {Q : VK} {W : WX}
/-- behind a def: its own things gone -/
theorem leave_post {esc : Bool} {d : D} {v : V} {μ' : List Addr} (hn : μ.length = n) (s : Step μ H μ' H') (S : Sim G μ' st H') (r : Rep G μ' H' d v) (p : Post G W (Rep G) μ H σ Q (leave esc n d st)) : Q v H' := by
  unfold leave at p
  split at p
  · exact p μ' H' v s S r
  · split at p
    · exact p μ' H' v s S r
    · obtain ⟨ν, rfl, hν⟩ := s.pre
      have fin : ∀ d, okSt n (st.take n) = true → noRef n d = true → Rep G (μ ++ ν) H' d v → Post G W (Rep G) μ H σ Q (.ok d (st.take n)) → Q v H' := fun d k kd r p => p μ H' v s.low (S.low (CL := G.CL) (lq := G.lq) hn k) (Rep.low (CL := G.CL) (lq := G.lq) hn d v kd r)
      split at p
      · rename_i l
        split at p
        · rename_i hl
          split at p
          · rename_i k
            exact fin _ k (by simpa [noRef] using hl) r p
          · exact p.elim
        · rename_i hl
          cases r with
          | ref e =>
            rename_i a
            have ha : a ∈ ν := by
              rw [List.getElem?_append_right (by rw [hn]; omega)] at e
              exact List.mem_of_getElem? e
            have fz : Fz G μ a := by
              refine ⟨fun m => (List.nodup_append.mp S.nd).2.2 a m a ha rfl, fun hm => (S.hid a hm).1 (List.mem_append_right _ ha)⟩
            split at p
            · rename_i ds e2
              split at p
              · rename_i k
                obtain ⟨vs, h1, h2⟩ := S.obj _ _ _ e2 e
                have k2 := Bool.and_eq_true _ _ ▸ k
                exact p μ H' _ s.low (S.low (CL := G.CL) (lq := G.lq) hn k2.2) (.lst fz h1 (RepL.low (CL := G.CL) (lq := G.lq) hn _ _ k2.1 h2))
              · exact p.elim
            · rename_i kvs e2
              split at p
              · rename_i k
                obtain ⟨vs, h1, _, h2⟩ := S.obj _ _ _ e2 e
                have k2 := Bool.and_eq_true _ _ ▸ k
                exact p μ H' _ s.low (S.low (CL := G.CL) (lq := G.lq) hn k2.2) (.dK fz (.inl (h1 rfl)) (RepP.low (CL := G.CL) (lq := G.lq) hn _ _ k2.1 h2))
              · exact p.elim
            · rename_i kvs e2
              split at p
              · rename_i k
                obtain ⟨vs, h1, _, h2⟩ := S.obj _ _ _ e2 e
                have k2 := Bool.and_eq_true _ _ ▸ k
                exact p μ H' _ s.low (S.low (CL := G.CL) (lq := G.lq) hn k2.2) (.dT fz (.inl (h1 rfl)) (RepQ.low (CL := G.CL) (lq := G.lq) hn _ _ k2.1 h2))
              · exact p.elim
            · exact p.elim
      · split at p
        · rename_i k
          have k2 := Bool.and_eq_true _ _ ▸ k
          exact fin _ k2.2 k2.1 r p
        · exact p.elim
theorem leaveX_post {esc : Bool} {c : Nat} {μ' : List Addr} (hn : μ.length = n) (s : Step μ H μ' H') (S : Sim G μ' st H') (p : Post G W (Rep G) μ H σ Q (leaveX esc n c st)) : W (.ref (G.exc c)) none σ H' := by
  unfold leaveX at p
  split at p
  · exact p μ' H' s S
  · split at p
    · exact p μ' H' s S
    · obtain ⟨ν, rfl, hν⟩ := s.pre
      split at p
      · rename_i k
        exact p μ H' s.low (S.low (CL := G.CL) (lq := G.lq) hn k)
      · exact p.elim
/-- the bar at a def that makes lambdas -/
theorem bar_post {r : R D} (p : Post G W (Rep G) μ H σ Q (bar true r)) : Post (G.lm CL lq) W (Rep (G.lm CL lq)) μ H σ Q r := by
  unfold bar at p
  rw [if_pos rfl] at p
  cases r with
  | ok d st =>
    simp only at p
    intro μ' H' v s S r
    split at p
    · rename_i k
      have k2 := Bool.and_eq_true _ _ ▸ k
      have hl : μ'.length = st.length := S.len
      have S2 := Sim.low (ν := []) (CL := G.CL) (lq := G.lq) (by rw [List.append_nil]; exact S) hl (by rw [List.take_length]; exact k2.2)
      rw [List.take_length] at S2
      exact p μ' H' v s S2 (Rep.low (G := G.lm CL lq) (ν := []) (CL := G.CL) (lq := G.lq) hl _ _ k2.1 (by rw [List.append_nil]; exact r))
    · exact p.elim
  | exn c st =>
    simp only at p
    intro μ' H' s S
    split at p
    · rename_i k
      have hl : μ'.length = st.length := S.len
      have S2 := Sim.low (ν := []) (CL := G.CL) (lq := G.lq) (by rw [List.append_nil]; exact S) hl (by rw [List.take_length]; exact k)
      rw [List.take_length] at S2
      exact p μ' H' s S2
    · exact p.elim
  | stuck => exact p
end
/-! ## A def keeps the evaluator's word -/
/-- the promise -/
def spF (G : Gl0) (np : Nat) (F : Fn) : Sp := fun vs H Q E => vs.length = np ∧ ∃ μ ds st, Sim G μ st H ∧ RepL G μ H ds vs ∧ Post G (fun c d _ H => E c d H) (Rep G) μ H [] Q (F ds st)
section
variable {G : Gl0}
theorem lo_start {μ : List Addr} {H : Hp} {ds : List D} {vs : List V} {N : List Str} (r : RepL G μ H ds vs) : Lo G μ (ds.map some ++ List.replicate (N.length - vs.length) none) (L2.start N vs) H := by
  unfold L2.start
  refine ⟨by simp [r.len], fun i d e => ?_⟩
  by_cases hi : i < ds.length
  · rw [List.getElem?_append_left (by simpa using hi)] at e
    rw [List.getElem?_map] at e
    obtain ⟨d', e1, e2⟩ := Option.map_eq_some_iff.mp e
    cases e2
    obtain ⟨v, h1, h2⟩ := r.get e1
    exact ⟨v, by rw [List.getElem?_append_left (by simpa [← r.len] using hi), List.getElem?_map, h1]; rfl, h2⟩
  · rw [List.getElem?_append_right (by simpa using hi)] at e
    have := List.mem_of_getElem? e
    rw [List.mem_replicate] at this
    cases this.2
theorem fn_snd {P : Program} {w : World} {K : PySem.W.Frag} {mg : Str → Option Value} {base : Heap} {f : Addr} {name qual : Str} {params : Arguments} {body : List Stmt} {scope : Scope} {dV kV doc pm cdv ct oc : Value} {an od : Option Addr} {osl : Array (Option Value)} {N ps : List Str}
    {S : SEnv} {esc lamF genF : Bool} {fuel np : Nat} (lk : K.lookup f = some ⟨oc, od, .func (PySem.W.fnOf name qual params body scope dV kV doc pm an cdv ct), osl⟩) (hcd : PySem.W.codeIn K cdv qual = true) (Sc : FnScope N ps scope) (hN : S.N = N) (hnp : ps.length = np)
    (gx : ∀ (A : Around) (outer : List Env) (s : Shared) (H : Hp) (E : XK), Room (S.kf + 4) (A.deeper (envOfC qual scope s.heap.objs.size f cdv)) →
      GXS S (if lamF then G.lm (lamCL (envOfC qual scope s.heap.objs.size f cdv)) ((envOfC qual scope s.heap.objs.size f cdv).qual ++ "<lambda>") else G) (cxOf (L2.CX P w) P w K mg base N qual scope f cdv A outer s H E) (clW H E) ⟨scope, fun _ => true, 4, genF, lamF⟩) :
    FnOk P w K mg base (L2.CX P w) (S.kf + 4 + 1) f (PySem.W.fnOf name qual params body scope dV kV doc pm an cdv ct) ps (spF G np (semF S esc lamF genF fuel np scope body)) := by
  refine fn_of lk hcd Sc (fun vs H Q E h => by rw [h.1, hnp]) fun A outer s H vs Q E hr h => ?_
  obtain ⟨hv, μ, ds, st, Si, r, p⟩ := h
  have g := gx A outer s H E hr
  have hl : ds.length = np := by rw [r.len, hv]
  unfold semF at p
  split at p
  · rename_i hc
    generalize hG1 : (if lamF then G.lm (lamCL (envOfC qual scope s.heap.objs.size f cdv)) ((envOfC qual scope s.heap.objs.size f cdv).qual ++ "<lambda>") else G) = G1 at g
    have ent : Sim G1 μ st H ∧ RepL G1 μ H ds vs ∧ Post G1 (fun c d _ H => E c d H) (Rep G1) μ H [] Q (match denSs S fuel ⟨scope, fun _ => true, 4, genF, lamF⟩ body (ds.map some ++ List.replicate (S.N.length - np) none) st with
        | .rt d st1 => leave esc st.length d st1
        | .nx _ st1 => leave esc st.length .non st1
        | .exn c st1 => leaveX esc st.length c st1
        | _ => .stuck) := by
      cases lamF with
      | false =>
        subst hG1
        exact ⟨Si, r, p⟩
      | true =>
        subst hG1
        obtain ⟨k1, k2⟩ := hc.2 rfl
        have hl2 : μ.length = st.length := Si.len
        have S2 := Sim.low (ν := []) (CL := lamCL (envOfC qual scope s.heap.objs.size f cdv)) (lq := (envOfC qual scope s.heap.objs.size f cdv).qual ++ "<lambda>") (by rw [List.append_nil]; exact Si) hl2 (by rw [List.take_length]; exact k2)
        rw [List.take_length] at S2
        exact ⟨S2, RepL.low (ν := []) hl2 _ _ k1 (by rw [List.append_nil]; exact r), bar_post p⟩
    obtain ⟨S1, r1, p1⟩ := ent
    refine ⟨_, (snds_all fuel).ss g G1.hid body, μ, ds.map some ++ List.replicate (S.N.length - np) none, st, S1, ?_, ?_⟩
    · rw [hN, ← hv]; exact lo_start r1
    · have hl2 : μ.length = st.length := S1.len
      generalize denSs S fuel ⟨scope, fun _ => true, 4, genF, lamF⟩ body (ds.map some ++ List.replicate (S.N.length - np) none) st = rs at p1
      cases rs with
      | nx ρ st1 => exact fun μ' σ' H' s' S' l => leave_post hl2 s' S' .non p1
      | rt d st1 => exact fun μ' H' v s' S' r' => leave_post hl2 s' S' r' p1
      | bk ρ st1 => exact p1.elim
      | ct ρ st1 => exact p1.elim
      | exn c st1 => exact fun μ' σ' H' s' S' => ⟨H', .refl _, leaveX_post hl2 s' S' p1⟩
      | stuck => exact p1.elim
  · exact p.elim
/-- a call of a def by its name -/
theorem callF_of {Y : Cx} {W : WX} {k np : Nat} {f : Addr} {fd : FuncData} {ps : List Str} {x : Str} {b : Fn} (F : ∀ h, FnOk Y.prog Y.w Y.K Y.mg Y.base (L2.CX Y.prog Y.w) k f fd ps (spF (G.wh h) np b)) (hr : Room k Y.A) (hg : Gl Y x) (hm : Y.mg x = some (.ref f)) (hk : PySem.W.keepIn Y.K (.ref f) = true)
    (hb : L2.Binds Y.K fd ps []) (tk : Takes Y W) (hdb : (x == ("__debug__" : Str)) = false) (hnp : ∀ ds st, b ds st ≠ .stuck → ds.length = np) (h : List Addr) : CallOkF Y (G.wh h) W x b := by
  have conv : ∀ {σ : Sl} {H : Hp} {Q : VK} {g : SA}, tE (G.wh h) W (sCall b g) σ H Q → tCallS (spF (G.wh h) np b) (WE W) (tA (G.wh h) W g) σ H Q := fun {σ H Q g} ⟨μ, ρ, st, q⟩ =>
    ⟨μ, ρ, st, (Run.bind q).imp fun xs H1 ⟨μ1, ds, st1, s1, rd, q1⟩ => ⟨by
      rw [← rd.len]
      exact hnp ds st1 fun e => by have := q1.post; rw [e] at this; exact this, μ1, ds, st1, q1.sim, rd, by
      have p := q1.post
      cases e : b ds st1 with
      | ok a st2 => rw [e] at p; exact p
      | exn c st2 => rw [e] at p; exact p
      | stuck => rw [e] at p; exact p⟩⟩
  constructor
  · intro p pos
    refine ⟨fun pins s σ H Q I q => ?_⟩
    refine wpAny_Call_Name_kw (ld_glob I hg hm ?_ hdb)
    refine PySem.W.callWith_K0 I.kIn hk ?_
    obtain ⟨μ, ρ, st, q⟩ := q
    have q2 := conv (g := sNil) ⟨μ, ρ, st, q⟩
    obtain ⟨μ, ρ, st, q2⟩ := q2
    exact run_fnS (us := []) (vs := []) (E := WE W) (F h) hr hb (passAt tk σ) I .nil (q2.val .nil)
  · intro p pos args g hs h0 ha
    cases args with
    | nil => exact absurd rfl h0
    | cons e es =>
      rw [List.any_cons, Bool.or_eq_false_iff] at hs
      exact PEimp (pe_callS (F h) hr hg hm hk hb (fun σ => passAt tk σ) ha hdb (starEach_cons hs.1) (starEach_any hs.2)) fun σ H Q q => conv q
end
end Bk

namespace Bk
open L2 PyProof.Rows PySem.Spec PySem

/-! ## list(..), tuple(..), dict(..) -/
section
variable {X : Cx} {G : Gl0}
def bListS : Fn := fun ds st => match ds with
  | [d] => (match seqOf st d with
    | some xs => .ok (.lst xs) st
    | none => .stuck)
  | _ => .stuck
theorem cb_listS {K : PySem.W.Frag} (hK : G.K = K) : CbD G bListS (fun xs H Q => ∃ p ys, xs = [.ref p] ∧ (SqL K H p ys ∨ SqT K H p ys) ∧ ∀ l, H l = none → Q (.ref l) (upd H l (.lst ys))) := by
  intro W μ ρ st σ H ds xs Q q r
  subst hK
  unfold bListS at q
  split at q
  · obtain ⟨x, rfl, r1⟩ := r.one
    split at q
    · rename_i ds e
      obtain ⟨p, vs, rfl, h1, h2⟩ := seqOf_rep q.sim e r1
      exact ⟨p, vs, rfl, h1, fun l n => q.new n (Rep.newL q.sim n h2)⟩
    · exact q.post.elim
  · exact q.post.elim
/-- pairs of a key and a value, as tuples of the heap -/
def pairsD : List D → Option (List (Key × D))
  | [] => some []
  | .tup [k, v] :: r => (keyOf k).bind fun k => (pairsD r).map fun r => (k, v) :: r
  | _ => none
def bDictP : Fn := fun ds st => match ds with
  | [d] => (match (asL st d).bind pairsD with
    | some kvs => .ok (.dK (mergeD [] kvs)) st
    | none => .stuck)
  | _ => .stuck
theorem pairs_rep {μ : List Addr} {H : Hp} {ds : List D} {vs : List V} {kd : List (Key × D)} (e : pairsD ds = some kd) (r : RepL G μ H ds vs) :
    ∃ (ps : List Addr) (kvs : List (Key × V)), vs = ps.map V.ref ∧ Paired (fun p kv => SqT G.K H p [kV kv.1, kv.2]) ps kvs ∧ RepP G μ H kd kvs := by
  induction ds generalizing vs kd with
  | nil => cases r; cases e; exact ⟨[], [], rfl, .nil, .nil⟩
  | cons d ds ih =>
    cases r with
    | cons h t =>
      unfold pairsD at e
      split at e
      · rename_i he; cases he
      · rename_i k v r' he
        cases he
        obtain ⟨kk, h1, e⟩ := Option.bind_eq_some_iff.mp e
        obtain ⟨r2, h2, e⟩ := Option.map_eq_some_iff.mp e
        subst e
        obtain ⟨ps, kvs, q1, q2, q3⟩ := ih h2 t
        cases h with
        | tup f0 f1 f2 => cases f2 with
          | cons g1 f2 => cases f2 with
            | cons g2 f2 =>
              cases f2
              have hk := keyOf_rep h1 g1
              subst hk
              exact ⟨_ :: ps, (kk, _) :: kvs, by rw [q1]; rfl, .cons (.inl (.inl f1)) q2, .cons g2 q3⟩
      · cases e
theorem cb_dictP {K : PySem.W.Frag} (hK : G.K = K) : CbD G bDictP (fun xs H Q => ∃ (a : Addr) (ps : List Addr) (kvs : List (Key × V)), xs = [.ref a] ∧ SqL K H a (ps.map V.ref) ∧ Paired (fun p kv => SqT K H p [kV kv.1, kv.2]) ps kvs ∧ ∀ p, H p = none → Q (.ref p) (upd H p (.dK (mergeK [] kvs)))) := by
  intro W μ ρ st σ H ds xs Q q r
  subst hK
  unfold bDictP at q
  split at q
  · obtain ⟨x, rfl, r1⟩ := r.one
    split at q
    · rename_i kd e
      obtain ⟨ds, e1, e2⟩ := Option.bind_eq_some_iff.mp e
      obtain ⟨p, vs, rfl, h1, h2⟩ := asL_rep q.sim e1 r1
      obtain ⟨ps, kvs, rfl, h3, h4⟩ := pairs_rep e2 h2
      exact ⟨p, ps, kvs, rfl, SqL.of h1, h3, fun l n => q.new n (.dK (q.sim.fz n) (.inl upd_same) ((merge_rep .nil h4).step (step_new n) _ _))⟩
    · exact q.post.elim
  · exact q.post.elim
/-! ### a dict of the written part -/
/-- the entries, as pairs of a key and a value -/
def EnP (w : World) (e : DictEntry) (kv : Key × Value) : Prop := keyIs kv.1 e.key = true ∧ e.val = kv.2 ∧ e.hash = keyH w kv.1
def KdD (K : PySem.W.Frag) (w : World) (a : Addr) (kvs : List (Key × V)) : Prop := ∃ (es : Array DictEntry) (n : Nat) (ws : List (Key × Value)), K.lookup a = some ⟨.type "dict", none, .dict es n, #[]⟩ ∧ (a == sysModules) = false ∧ KV kvs ws ∧
  Paired (EnP w) es.toList ws ∧ (ws.map (·.1)).Nodup ∧ kvs.length ≤ sizeLine
theorem enp_pairs {P : Program} {w : World} {es : List DictEntry} {ws : List (Key × Value)} (h : Paired (EnP w) es ws) : PySem.Pairs (mixKind P w) es ws := by
  induction h with
  | nil => exact .nil
  | cons a _ ih => exact .cons a.1 a.2.1 ih
theorem enp_keys {P : Program} {w : World} {es : List DictEntry} {ws : List (Key × Value)} (h : Paired (EnP w) es ws) : ∀ e ∈ es, ∃ k, (mixKind P w).is k e.key = true ∧ e.hash = (mixKind P w).hash k := by
  induction h with
  | nil => exact fun e he => by cases he
  | cons a _ ih => exact fun e he => (List.mem_cons.mp he).elim (fun z => z ▸ ⟨_, a.1, a.2.2⟩) (ih e)
theorem KdD.at {K : PySem.W.Frag} {w : World} {a : Addr} {kvs : List (Key × V)} {P : Program} {h : Heap} (k : KdD K w a kvs) (Xk : K.In h) : ∃ ws, KV kvs ws ∧ h.DictOf (mixKind P w) a ws := by
  obtain ⟨es, n, ws, lk, lo, kv, h2, h3, h4⟩ := k
  exact ⟨ws, kv, _, es, n, Xk _ _ lk, ⟨rfl, rfl, rfl⟩, rfl, fun e he => enp_keys h2 e (Array.mem_toList_iff.mpr he), enp_pairs h2, h3⟩
theorem cr_dictKd : CallR X (.type "dict") (fun xs H Q => ∃ (a : Addr) (kvs : List (Key × V)), xs = [.ref a] ∧ KdD X.K X.w a kvs ∧ ∀ p, H p = none → Q (.ref p) (upd H p (.dK kvs))) := by
  rintro pins s σ H xs us Q I r ⟨a, kvs, rfl, kd, q⟩
  rw [Vals.ref1 r]
  have lo : (a == sysModules) = false := by obtain ⟨es, n, ws, lk, lo, _⟩ := kd; exact lo
  have z : kvs.length ≤ sizeLine := by obtain ⟨es, n, ws, _, _, _, _, _, z⟩ := kd; exact z
  obtain ⟨ws, rel, dd⟩ := kd.at (P := X.prog) I.kIn
  refine PySem.kt_call_dict lo dd (by rw [← rel.length]; exact z) fun h' d' hs => ?_
  have hm : (s.heap.objs.size == sysModules) = false := beq_eq_false_iff_ne.mpr (Nat.ne_of_gt I.big)
  exact ⟨.ref s.heap.objs.size, upd H s.heap.objs.size (.dK kvs), I.laid (t' := s.toks) (fun b u e => (hs.2 b (Nat.ne_of_lt (Heap.lt_size e))).trans (Heap.get?_push_of_some _ e)) (Nat.le_refl _) (show ObjOk X.prog X.w _ _ _ (.dK kvs) from ⟨z, hm, ws, rel, d'⟩), rfl, q _ (I.hok.fresh (Nat.le_refl _))⟩
def kdV (kvs : List (Str × Int)) : List (Key × V) := kvs.map fun p => (.inr p.1, V.int p.2)
def kdB (K : PySem.W.Frag) (a : Addr) (kvs : List (Str × Int)) : Bool := match K.lookup a with
  | some ⟨_, _, .dict es _, _⟩ => He.relAll (kvs.map fun p => V.int p.2) (es.toList.map (·.val))
  | _ => false
theorem kd_entries {w : World} : ∀ {l : List DictEntry} {kvs : List (Str × Int)}, l.map He.keyOf = He.keysIn w.params (kvs.map (·.1)) → Vals (kvs.map fun p => V.int p.2) (l.map (·.val)) →
    ∃ ws, KV (kdV kvs) ws ∧ Paired (EnP w) l ws ∧ (∀ e ∈ l, e.refKey = false) ∧ ∀ z : Str, RelO ((kvs.lookup z).map V.int) ((l.find? (·.key.isStr z)).map (·.val))
  | [], [], _, _ => ⟨[], .nil, .nil, fun e h => (by cases h), fun z => trivial⟩
  | [], _ :: _, e, _ => by cases e
  | _ :: _, [], e, _ => by cases e
  | en :: l, (k, v) :: kvs, e, r => by
    injection e with e1 e2
    cases r with
    | cons r1 r2 =>
    obtain ⟨ws, h1, h2, h3, h4⟩ := kd_entries e2 r2
    unfold He.keyOf at e1
    split at e1
    · rename_i x t q
      obtain ⟨h5, h6⟩ := Prod.mk.inj (Option.some.inj e1)
      subst h5
      refine ⟨(.inr x, en.val) :: ws, .cons ⟨rfl, r1⟩ h1, .cons ⟨by rw [q]; exact keyIs_str _ _, rfl, h6⟩ h2, fun e he => ?_, fun z => ?_⟩
      · rcases List.mem_cons.mp he with rfl | he
        · unfold DictEntry.refKey; rw [q]
        · exact h3 e he
      · rw [List.find?_cons, q]
        show RelO _ (Option.map _ (match (x == z) with | true => some en | false => l.find? fun e => e.key.isStr z))
        rw [List.lookup_cons]
        by_cases hz : x = z
        · subst hz
          rw [beq_self_eq_true]
          exact r1
        · have n1 : (x == z) = false := beq_eq_false_iff_ne.mpr hz
          have n2 : (z == x) = false := beq_eq_false_iff_ne.mpr (Ne.symm hz)
          rw [n1, n2]
          exact h4 z
    · cases e1
theorem kdD_of {K : PySem.W.Frag} {w : World} {a : Addr} {kvs : List (Str × Int)} (h : He.dicW K a = some (He.keysIn w.params (kvs.map (·.1)))) (hv : kdB K a kvs = true) (nd : ((kdV kvs).map (·.1)).Nodup) (hl : kvs.length ≤ sizeLine) :
    (∃ es n, KDict K w a es n) ∧ (∀ z : Str, ∃ r, PySem.W.nsIn K a z = some r ∧ RelO ((kvs.lookup z).map V.int) r) ∧ KdD K w a (kdV kvs) := by
  obtain ⟨es, n, D⟩ := He.dicW_ok h
  have hk : es.toList.map He.keyOf = He.keysIn w.params (kvs.map (·.1)) := by
    unfold He.dicW at h
    rw [D.at_] at h
    have h1 : (match decide (("dict" : String) = "dict") && ((#[] : Array (Option Value)).isEmpty && !(a == sysModules)) with
      | true => some (es.toList.map He.keyOf)
      | false => none) = some (He.keysIn w.params (kvs.map (·.1))) := h
    rw [D.low] at h1
    exact Option.some.inj h1
  have hv2 : Vals (kvs.map fun p => V.int p.2) (es.toList.map (·.val)) := by
    unfold kdB at hv
    rw [D.at_] at hv
    exact He.relAll_ok hv
  obtain ⟨ws, h1, h2, h3, h4⟩ := kd_entries hk hv2
  refine ⟨⟨es, n, D⟩, fun z => ?_, es, n, ws, D.at_, D.low, h1, h2, by rw [← h1.keys]; exact nd, by unfold kdV; rw [List.length_map]; exact hl⟩
  have hz := h4 z
  unfold PySem.W.nsIn
  rw [D.at_]
  cases e : es.toList.find? (·.key.isStr z) with
  | some en =>
    rw [e] at hz
    exact ⟨some en.val, by simp only [e], hz⟩
  | none =>
    rw [e] at hz
    have : es.toList.any (·.refKey) = false := by
      rw [List.any_eq_false]
      exact fun x hx => by rw [h3 x hx]; exact Bool.false_ne_true
    refine ⟨none, by simp only [e, this]; rfl, hz⟩
def bDictX (kc : Nat → List (Str × Int)) : Fn := fun ds st => match ds with
  | [.kd i] => if (kc i).isEmpty then .stuck else .ok (.dK ((kc i).map fun p => (.inr p.1, .int p.2))) st
  | ds => bDictP ds st
theorem kdRep {μ : List Addr} {H : Hp} (kvs : List (Str × Int)) : RepP G μ H (kvs.map fun p => (.inr p.1, .int p.2)) (kdV kvs) := by
  induction kvs with
  | nil => exact .nil
  | cons p kvs ih => exact .cons (.int _) ih
/-- dict(..) of a written dict, of pairs -/
theorem ok_dict {W : WX} (hK : G.K = X.K) (hc : X.calm = true) (kd : ∀ i, G.kdC i ≠ [] → KdD X.K X.w (G.kdA i) (kdV (G.kdC i))) (hg : Gl X "dict") (hm : X.mg "dict" = none) : CallOk X G W "dict" (bDictX G.kdC) := by
  have h1 := ok_callTy (X := X) (G := G) (W := W) (x := "dict") (call_dictP hc) (cb_dictP hK) hg hm (by decide +kernel) (by decide) (by decide)
  have cb : CbD G (fun ds st => match ds with
      | [.kd i] => if (G.kdC i).isEmpty then .stuck else .ok (.dK ((G.kdC i).map fun p => (.inr p.1, .int p.2))) st
      | _ => .stuck) (fun xs H Q => ∃ (a : Addr) (kvs : List (Key × V)), xs = [.ref a] ∧ KdD X.K X.w a kvs ∧ ∀ p, H p = none → Q (.ref p) (upd H p (.dK kvs))) := by
    intro W μ ρ st σ H ds xs Q q r
    dsimp only at q
    split at q
    · rename_i i
      cases r with
      | cons h r => cases r with
        | nil => cases h with
          | kd i =>
            split at q
            · exact q.post.elim
            · rename_i ne
              refine ⟨_, _, rfl, kd i (fun z => ne (by rw [z]; rfl)), fun p n => q.new n (.dK (q.sim.fz n) (.inl upd_same) (kdRep _))⟩
    · exact q.post.elim
  have h2 := ok_callTy (X := X) (G := G) (W := W) (x := "dict") cr_dictKd cb hg hm (by decide +kernel) (by decide) (by decide)
  intro p pos args g hs h0 ha
  refine ⟨fun pins s σ H Q I ⟨μ, ρ, st, q⟩ => ?_⟩
  have e : (∀ ds st1, g ρ st = .ok ds st1 → (∃ i, ds = [.kd i])) ∨ ¬ (∀ ds st1, g ρ st = .ok ds st1 → (∃ i, ds = [.kd i])) := Classical.em _
  rcases e with e | e
  · refine (h2 p pos args g hs h0 ha).run pins s σ H Q I ⟨μ, ρ, st, q.sim, q.lo, ?_⟩
    have p := q.post
    unfold sCall at p ⊢
    cases eg : g ρ st with
    | ok ds st1 =>
      obtain ⟨i, rfl⟩ := e ds st1 eg
      rw [eg] at p
      exact p
    | exn c st1 => rw [eg] at p; exact p
    | stuck => rw [eg] at p; exact p
  · refine (h1 p pos args g hs h0 ha).run pins s σ H Q I ⟨μ, ρ, st, q.sim, q.lo, ?_⟩
    have p := q.post
    unfold sCall at p ⊢
    cases eg : g ρ st with
    | ok ds st1 =>
      have ne : ¬ ∃ i, ds = [.kd i] := fun z => e fun ds' st' h => by rw [eg] at h; cases h; exact z
      rw [eg] at p
      have : bDictX G.kdC ds st1 = bDictP ds st1 := by
        unfold bDictX
        split
        · exact absurd ⟨_, rfl⟩ ne
        · rfl
      show Post G W (Rep G) μ H σ Q (bDictP ds st1)
      rw [← this]
      exact p
    | exn c st1 => rw [eg] at p; exact p
    | stuck => rw [eg] at p; exact p
theorem ok_list {W : WX} (hK : G.K = X.K) (hg : Gl X "list") (hm : X.mg "list" = none) : CallOk X G W "list" bListS :=
  ok_callTy call_list_of (cb_listS hK) hg hm (by decide +kernel) (by decide) (by decide)
theorem ok_len {W : WX} (hK : G.K = X.K) (hg : Gl X "len") (hm : X.mg "len" = none) : CallOk X G W "len" bLen :=
  ok_callB call_lenX (cb_len hK) hg hm (by decide +kernel) (by decide) (by decide)
theorem ok_abs {W : WX} (hg : Gl X "abs") (hm : X.mg "abs" = none) : CallOk X G W "abs" bAbs :=
  ok_callB call_abs cb_abs hg hm (by decide +kernel) (by decide) (by decide)
theorem ok_int {W : WX} (hg : Gl X "int") (hm : X.mg "int" = none) : CallOk X G W "int" bInt :=
  ok_callTy call_intX cb_int hg hm (by decide +kernel) (by decide) (by decide)
theorem ok_str {W : WX} (hg : Gl X "str") (hm : X.mg "str" = none) : CallOk X G W "str" bStr :=
  ok_callTy call_strX cb_str hg hm (by decide +kernel) (by decide) (by decide)
end
end Bk

namespace Bk
open L2 PyProof.Rows PySem.Spec PySem

/-! ## A program's defs, one by one -/
def glook (l : List (Str × GV)) (x : Str) : GV := match l.lookup x with
  | some g => g
  | none => .none
/-- a context of a def's body, and what is wanted of exceptions there -/
structure YF (prog : Program) (w : World) (K : PySem.W.Frag) (mg : Str → Option Value) (base : Heap) (kf : Nat) (Y : Cx) (W : WX) : Prop where
  prog : Y.prog = prog
  w : Y.w = w
  K : Y.K = K
  mg : Y.mg = mg
  base : Y.base = base
  calm : Y.calm = true
  room : Room kf Y.A
  tk : Takes Y W
def GlobL (S : SEnv) (G : Gl0) (Y : Cx) (W : WX) (l : List (Str × GV)) : Prop := ∀ p ∈ l, Gl Y p.1 → dbgB p.1 = false → GlobV S G Y W p.1 p.2
section
variable {S : SEnv} {G : Gl0} {Y : Cx} {W : WX} {l : List (Str × GV)}
theorem gl_nil : GlobL S G Y W [] := fun p h => by cases h
theorem gl_cons {x : Str} {g : GV} (h : Gl Y x → dbgB x = false → GlobV S G Y W x g) (t : GlobL S G Y W l) : GlobL S G Y W ((x, g) :: l) := fun p hp => by
  rcases List.mem_cons.mp hp with rfl | hp
  · exact h
  · exact t p hp
theorem GlobL.ok (h : GlobL S G Y W l) (e : S.glob = glook l) {x : Str} (hx : Gl Y x) (hd : dbgB x = false) : GlobOk S G Y W x := by
  unfold GlobOk
  rw [e]
  unfold glook
  split
  · rename_i g q
    exact h (x, g) (PySem.mem_of_lookup q) hx hd
  · trivial
end
def RaL (G : Gl0) (Y : Cx) (l : List (Str × GV)) : Prop := ∀ y c, (y, GV.exc c) ∈ l → Gl Y y → dbgB y = false → RaiseOk G Y y c
theorem ra_nil {G : Gl0} {Y : Cx} : RaL G Y [] := fun y c h => by cases h
theorem ra_cons {G : Gl0} {Y : Cx} {x : Str} {g : GV} {l : List (Str × GV)} (h : ∀ c, g = .exc c → Gl Y x → dbgB x = false → RaiseOk G Y x c) (t : RaL G Y l) : RaL G Y ((x, g) :: l) := fun y c hm => by
  rcases List.mem_cons.mp hm with e | hm
  · cases e; exact h c rfl
  · exact t y c hm
/-- the constants of a program -/
structure PC where
  tf : List (He.Defn × Str)
  lamP : List Pos
  excs : List Str
  kds : List (Str × List (Str × Int))
def PC.G (p : PC) (K : PySem.W.Frag) : Gl0 where
  K := K
  tabs := p.tf.map fun q => ((He.cT K q.1).2, q.2)
  isLam := fun q => p.lamP.contains q
  exc := fun c => He.ga K (p.excs.getD c "")
  cls := fun _ => 0
  CL := fun _ _ _ _ _ => True
  lq := ""
  kdA := fun i => He.ga K (p.kds.getD i ("", [])).1
  kdC := fun i => (p.kds.getD i ("", [])).2
/-- what the head has left -/
structure En (p : PC) (fa : List He.Fa) (fn : List He.DefD) (w : World) (K : PySem.W.Frag) (mg : Str → Option Value) (base : Heap) : Prop where
  d : He.SaysD fa fn K
  kd : ∀ q ∈ p.kds, (He.dicW K (He.ga K q.1) = some (He.keysIn w.params (q.2.map (·.1))) ∧ kdB K (He.ga K q.1) q.2 = true) ∧ ((kdV q.2).map (·.1)).Nodup ∧ q.2.length ≤ sizeLine
  nd : (p.tf.map fun q => (He.cT K q.1).2).Nodup
  KX : K.In base
  g : base.Ns mainGlobals mg
  tb : ∀ q ∈ p.tf, GxR.TabB base mg (He.cT K q.1).1 (He.cT K q.1).2
section
variable {p : PC} {fa : List He.Fa} {fn : List He.DefD} {prog : Program} {w : World} {K : PySem.W.Frag} {mg : Str → Option Value} {base : Heap}
theorem En.glo (E : En p fa fn w K mg base) {x : Str} (h : He.Fa.glo x ∈ fa) : mg x = some (.ref (He.ga K x)) := He.glo_ok E.KX E.g (E.d.facts h)
theorem En.free (E : En p fa fn w K mg base) {x : Str} (h : He.Fa.free x ∈ fa) : mg x = none := He.free_ok E.KX E.g (E.d.facts h)
theorem En.kdAll (E : En p fa fn w K mg base) {G : Gl0} (hK : G.K = K) (hA : G.kdA = (p.G K).kdA) (hC : G.kdC = (p.G K).kdC) (i : Nat) (h : G.kdC i ≠ []) : KdOk G w i ∧ KdD K w (G.kdA i) (kdV (G.kdC i)) := by
  have hi : i < p.kds.length := by
    apply Nat.lt_of_not_le
    intro z
    rw [hC] at h
    exact h (by show (p.kds.getD i ("", [])).2 = []; rw [List.getD_eq_getElem?_getD, List.getElem?_eq_none z]; rfl)
  have hm : p.kds.getD i ("", []) ∈ p.kds := by rw [List.getD_eq_getElem?_getD, List.getElem?_eq_getElem hi]; exact List.getElem_mem hi
  obtain ⟨⟨h1, h2⟩, h3, h4⟩ := E.kd _ hm
  obtain ⟨k1, k2, k3⟩ := kdD_of h1 h2 h3 h4
  rw [hA, hC]
  refine ⟨⟨by rw [hK, hA]; exact k1, fun z => by rw [hK, hA, hC]; exact k2 z⟩, k3⟩
/-- a def that keeps the evaluator's word, whatever the closures around -/
structure DOk (prog : Program) (w : World) (K : PySem.W.Frag) (mg : Str → Option Value) (base : Heap) (G : Gl0) (x : Str) (ps : List Str) (np : Nat) (b : Fn) (k : Nat) : Prop where
  ex : ∃ (f : Addr) (fd : FuncData), mg x = some (.ref f) ∧ PySem.W.keepIn K (.ref f) = true ∧ ((∃ oc od osl, K.lookup f = some ⟨oc, od, .func fd, osl⟩) ∧ ∀ us : List Value, us.length = ps.length → bindArgs fd ⟨us, []⟩ = pure (ps.zip us)) ∧ (∀ CL lq h, FnOk prog w K mg base (L2.CX prog w) k f fd ps (spF ((G.lm CL lq).wh h) np b)) ∧ ∀ ds st, b ds st ≠ .stuck → ds.length = np
theorem DOk.glob {G : Gl0} {x : Str} {ps : List Str} {np k kf : Nat} {b : Fn} {S : SEnv} {Y : Cx} {W : WX} (D : DOk prog w K mg base G x ps np b k) (y : YF prog w K mg base kf Y W) (hk : k ≤ kf) (CL : Scope → Expr → Addr → Addr → Heap → Prop) (lq : Str) (hg : Gl Y x) (hd : dbgB x = false) : GlobV S (G.lm CL lq) Y W x (.fn b) := by
  obtain ⟨f, fd, h1, h2, h3, h4, h5⟩ := D.ex
  obtain ⟨e1, e2, e3, e4, e5, e6, r, tk⟩ := y
  subst e1 e2 e3 e4 e5
  exact fun h => callF_of (fun h => h4 CL lq h) (r.mono hk) hg h1 h2 (Binds.all h3.2) tk (dbg_of hd).1 h5 h
theorem semF_np {S : SEnv} {esc lamF genF : Bool} {fuel np : Nat} {sc : Scope} {body : List Stmt} (ds : List D) (st : Store) (h : semF S esc lamF genF fuel np sc body ds st ≠ .stuck) : ds.length = np := by
  unfold semF at h
  split at h
  · rename_i hc; exact hc.1
  · exact absurd rfl h
theorem nodup_fst {α : Type} {f : α → Addr} : ∀ {l : List α}, (l.map f).Nodup → ∀ a ∈ l, ∀ b ∈ l, f a = f b → a = b
  | [], _, _, h, _, _, _ => by cases h
  | x :: l, hn, a, ha, b, hb, e => by
    rw [List.map_cons, List.nodup_cons] at hn
    rcases List.mem_cons.mp ha with rfl | ha
    · rcases List.mem_cons.mp hb with rfl | hb
      · rfl
      · exact absurd (List.mem_map.mpr ⟨b, hb, e.symm⟩) hn.1
    · rcases List.mem_cons.mp hb with hb | hb
      · rw [hb] at e; exact absurd (List.mem_map.mpr ⟨a, ha, e⟩) hn.1
      · exact nodup_fst hn.2 a ha b hb e
/-- THE RULE for a def -/
theorem def_dok (E : En p fa fn w K mg base) {dd : He.DefD} (hd : dd ∈ fn) (x : Str) (ps N : List Str) (S : SEnv) (esc lamF genF : Bool) (fuel np : Nat) (gl : List (Str × GV)) (hx : dd.at_ = (x, none)) (hq : dd.qual = dd.name) (hdf : dd.dfl = []) (hgf : He.Fa.glo x ∈ fa) (hS : FnScope N ps dd.scope) (hN : S.N = N) (hnp : ps.length = np) (hkc : S.kc = fun i => (p.kds.getD i ("", [])).2) (hlp : S.lamP = p.lamP)
    (hgl : S.glob = glook gl) (hbind : ∀ (kV doc pm : Value) (an : Option Addr) (cdv ct : Value) (us : List Value), us.length = ps.length → bindArgs (PySem.W.fnOf dd.name dd.qual dd.params dd.body dd.scope .none kV doc pm an cdv ct) ⟨us, []⟩ = pure (ps.zip us))
    (htab : genF = true ∨ lamF = true → (dd.at_, (dd.qual ++ ".<locals>." ++ "<lambda>" : Str)) ∈ p.tf) (hl : ∀ Y W CL lq, YF prog w K mg base S.kf Y W → GlobL S ((p.G K).lm CL lq) Y W gl) (hra : ∀ Y W, YF prog w K mg base S.kf Y W → RaL (p.G K) Y gl) :
    DOk prog w K mg base (p.G K) x ps np (semF S esc lamF genF fuel np dd.scope dd.body) (S.kf + 5) := by
  obtain ⟨fd, F⟩ := E.d.defs hd
  obtain ⟨oc, od, dV, kV, doc, pm, an, cdv, ct, osl, efd, lk, hcd, hdv, hkw⟩ := F.ex
  have hdfl : dd.dvs K = [] := by unfold He.DefD.dvs; rw [hdf]; rfl
  rw [hdfl] at hdv
  have hdV : dV = .none := hdv.elim (fun z => z.2) fun z => absurd rfl z.1
  subst hdV
  obtain ⟨c, ec⟩ := He.codeIn_ref hcd
  have hcT : (He.cT K dd.at_).1 = c := He.codeOf_eq lk (by rw [efd]; exact ec)
  refine ⟨He.fAd K dd.at_, fd, ?_, F.kp, ⟨⟨oc, od, osl, lk⟩, ?_⟩, fun CL lq h => ?_, semF_np⟩
  · rw [hx]; exact E.glo hgf
  · rw [efd]
    exact fun us hu => hbind _ _ _ _ _ _ us hu
  · rw [efd] at lk ⊢
    have tab : genF = true ∨ lamF = true → ∃ q : He.Defn × Str, q ∈ p.tf ∧ q = (dd.at_, (dd.qual ++ ".<locals>." ++ "<lambda>" : Str)) ∧ GxR.TabB base mg c (He.cT K q.1).2 := fun z => ⟨_, htab z, rfl, by rw [← hcT]; exact E.tb _ (htab z)⟩
    refine fn_snd lk hcd hS hN hnp fun A outer s H Ex hr => ?_
    have main : ∀ (CL : Scope → Expr → Addr → Addr → Heap → Prop) (lq : Str) (h : List Addr), (lamF = true → CL = lamCL (envOfC dd.qual dd.scope s.heap.objs.size (He.fAd K dd.at_) cdv) ∧ lq = dd.qual ++ ".<locals>." ++ "<lambda>") →
        GXS S (((p.G K).lm CL lq).wh h) (cxOf (L2.CX prog w) prog w K mg base N dd.qual dd.scope (He.fAd K dd.at_) cdv A outer s H Ex) (clW H Ex) ⟨dd.scope, fun _ => true, 4, genF, lamF⟩ := fun CL lq h hlm => by
      have y0 : ∀ (Y : Cx) (W' : WX), SameC (cxOf (L2.CX prog w) prog w K mg base N dd.qual dd.scope (He.fAd K dd.at_) cdv A outer s H Ex) Y → Room S.kf Y.A → Takes Y W' → YF prog w K mg base S.kf Y W' := fun Y W' e r t => ⟨e.prog, e.w, e.K, e.mg, e.base, e.calm, r, t⟩
      refine ⟨⟨hN.symm, hS.nd, rfl, fun x _ => rfl, rfl, hkc, hr, rfl, fun h i hi => (E.kdAll (G := ((p.G K).lm CL lq).wh h) rfl rfl rfl i hi).1, clW_wc rfl, fun z => ?_, fun q hq => by rw [hlp]; exact List.contains_iff_mem.mp hq, fun q hq => by rw [hlp] at hq; exact List.contains_iff_mem.mpr hq, fun z => ?_, takes_cl rfl (takes_of rfl rfl rfl rfl), fun Y W' y e r t hy hdy => ?_⟩, passes_of rfl, fun y c hy hdy e => ?_⟩
      · obtain ⟨q, h1, h2, h3⟩ := tab (.inl z)
        exact ⟨c, (He.cT K q.1).2, q.2, h3, ec, List.mem_map.mpr ⟨q, h1, rfl⟩⟩
      · obtain ⟨q, h1, h2, h3⟩ := tab (.inr z)
        obtain ⟨l1, l2⟩ := hlm z
        refine ⟨c, (He.cT K q.1).2, h3, ec, List.mem_map.mpr ⟨q, h1, ?_⟩, fun r hr hz => ?_, ?_, ?_⟩
        · show (_, q.2) = (_, lq)
          rw [h2, l2]
        · obtain ⟨q', hq', rfl⟩ := List.mem_map.mp hr
          have := nodup_fst (f := fun q : He.Defn × Str => (He.cT K q.1).2) E.nd q' hq' q h1 hz
          rw [this]
          show q.2 = lq
          rw [h2, l2]
        · exact l2
        · exact l1
      · exact (hl Y W' CL lq (y0 Y W' e r t)).ok hgl hy hdy
      · rw [hgl] at e
        have hm : (y, GV.exc c) ∈ gl := by
          unfold glook at e
          split at e
          · rename_i g q
            subst e
            exact PySem.mem_of_lookup q
          · cases e
        exact hra _ _ (y0 _ (clW H Ex) (SameC.refl _) (hr.less (by show S.kf ≤ S.kf + 4; omega)) (takes_cl rfl (takes_of rfl rfl rfl rfl))) y c hm hy hdy
    cases lamF with
    | false => exact main CL lq h (fun z => by cases z)
    | true => exact main _ _ h fun _ => ⟨rfl, rfl⟩
/-! what the names hold -/
variable {kf : Nat} {G : Gl0} {S : SEnv} {Y : Cx} {W : WX}
theorem raise_of (E : En p fa fn w K mg base) {x : Str} {c : Nat} (hf : He.Fa.exc x ∈ fa) (hg : He.Fa.glo x ∈ fa) (hc : p.excs.getD c "" = x) (y : YF prog w K mg base kf Y W) (hy : Gl Y x) (hd : dbgB x = false) : RaiseOk (p.G K) Y x c := by
  obtain ⟨e1, e2, e3, e4, e5, e6, r, tk⟩ := y
  subst e1 e2 e3 e4 e5
  obtain ⟨k1, k2, k3, k4⟩ := He.exc_ok (E.d.facts hf)
  intro m j q1 q2 pos
  have := pmk_own (X := Y) (x := x) (m := m) (j := j) (p := q1) (p2 := q2) (pos := pos) PySem.F.excBase_ValueError k1 (E.glo hg) k2 (raises_own k3 k4) hy (dbg_of hd).1
  show PMk Y _ fun _ H Q => Q (.ref (He.ga Y.K (p.excs.getD c ""))) none H
  rw [hc]
  exact this
theorem gb_len (E : En p fa fn w K mg base) (hf : He.Fa.free "len" ∈ fa) (y : YF prog w K mg base kf Y W) (CL : Scope → Expr → Addr → Addr → Heap → Prop) (lq : Str) (hg : Gl Y "len") (hd : dbgB "len" = false) : GlobV S ((p.G K).lm CL lq) Y W "len" (.blt bLen) := by
  have hm := E.free hf
  obtain ⟨e1, e2, e3, e4, e5, e6, r, tk⟩ := y
  subst e1 e2 e3 e4 e5
  exact fun h => ok_len rfl hg hm
theorem gb_abs (E : En p fa fn w K mg base) (hf : He.Fa.free "abs" ∈ fa) (y : YF prog w K mg base kf Y W) (CL : Scope → Expr → Addr → Addr → Heap → Prop) (lq : Str) (hg : Gl Y "abs") (hd : dbgB "abs" = false) : GlobV S ((p.G K).lm CL lq) Y W "abs" (.blt bAbs) := by
  have hm := E.free hf
  obtain ⟨e1, e2, e3, e4, e5, e6, r, tk⟩ := y
  subst e1 e2 e3 e4 e5
  exact fun h => ok_abs hg hm
theorem gb_int (E : En p fa fn w K mg base) (hf : He.Fa.free "int" ∈ fa) (y : YF prog w K mg base kf Y W) (CL : Scope → Expr → Addr → Addr → Heap → Prop) (lq : Str) (hg : Gl Y "int") (hd : dbgB "int" = false) : GlobV S ((p.G K).lm CL lq) Y W "int" (.blt bInt) := by
  have hm := E.free hf
  obtain ⟨e1, e2, e3, e4, e5, e6, r, tk⟩ := y
  subst e1 e2 e3 e4 e5
  exact fun h => ok_int hg hm
theorem gb_str (E : En p fa fn w K mg base) (hf : He.Fa.free "str" ∈ fa) (y : YF prog w K mg base kf Y W) (CL : Scope → Expr → Addr → Addr → Heap → Prop) (lq : Str) (hg : Gl Y "str") (hd : dbgB "str" = false) : GlobV S ((p.G K).lm CL lq) Y W "str" (.blt bStr) := by
  have hm := E.free hf
  obtain ⟨e1, e2, e3, e4, e5, e6, r, tk⟩ := y
  subst e1 e2 e3 e4 e5
  exact fun h => ok_str hg hm
theorem gb_list (E : En p fa fn w K mg base) (hf : He.Fa.free "list" ∈ fa) (y : YF prog w K mg base kf Y W) (CL : Scope → Expr → Addr → Addr → Heap → Prop) (lq : Str) (hg : Gl Y "list") (hd : dbgB "list" = false) : GlobV S ((p.G K).lm CL lq) Y W "list" (.blt bListS) := by
  have hm := E.free hf
  obtain ⟨e1, e2, e3, e4, e5, e6, r, tk⟩ := y
  subst e1 e2 e3 e4 e5
  exact fun h => ok_list rfl hg hm
theorem gb_max (E : En p fa fn w K mg base) (hf : He.Fa.free "max" ∈ fa) (y : YF prog w K mg base kf Y W) (CL : Scope → Expr → Addr → Addr → Heap → Prop) (lq : Str) (hg : Gl Y "max") (hd : dbgB "max" = false) : GlobV S ((p.G K).lm CL lq) Y W "max" (.blt bMaxI) := by
  have hm := E.free hf
  obtain ⟨e1, e2, e3, e4, e5, e6, r, tk⟩ := y
  subst e1 e2 e3 e4 e5
  exact fun h => ok_max rfl e6 hg hm
theorem gb_dict (E : En p fa fn w K mg base) (hf : He.Fa.free "dict" ∈ fa) (y : YF prog w K mg base kf Y W) (CL : Scope → Expr → Addr → Addr → Heap → Prop) (lq : Str) (hg : Gl Y "dict") (hd : dbgB "dict" = false) : GlobV S ((p.G K).lm CL lq) Y W "dict" (.blt (bDictX fun i => (p.kds.getD i ("", [])).2)) := by
  have hm := E.free hf
  obtain ⟨e1, e2, e3, e4, e5, e6, r, tk⟩ := y
  subst e1 e2 e3 e4 e5
  exact fun h => ok_dict (G := ((p.G Y.K).lm CL lq).wh h) rfl e6 (fun i hi => (E.kdAll (G := ((p.G Y.K).lm CL lq).wh h) rfl rfl rfl i hi).2) hg hm
theorem gb_sorted (E : En p fa fn w K mg base) (hf : He.Fa.free "sorted" ∈ fa) (y : YF prog w K mg base kf Y W) (CL : Scope → Expr → Addr → Addr → Heap → Prop) (lq : Str) (hg : Gl Y "sorted") (hd : dbgB "sorted" = false) : GlobV S ((p.G K).lm CL lq) Y W "sorted" (.srt) := by
  have hm := E.free hf
  obtain ⟨e1, e2, e3, e4, e5, e6, r, tk⟩ := y
  subst e1 e2 e3 e4 e5
  exact ⟨⟨rfl, hm⟩, fun h => ok_sorted rfl e6 hg hm⟩
theorem gb_tuple (E : En p fa fn w K mg base) (hf : He.Fa.free "tuple" ∈ fa) (y : YF prog w K mg base kf Y W) (CL : Scope → Expr → Addr → Addr → Heap → Prop) (lq : Str) (hg : Gl Y "tuple") (hd : dbgB "tuple" = false) : GlobV S ((p.G K).lm CL lq) Y W "tuple" (.tupl) := by
  have hm := E.free hf
  obtain ⟨e1, e2, e3, e4, e5, e6, r, tk⟩ := y
  subst e1 e2 e3 e4 e5
  exact ⟨⟨rfl, hm⟩, fun h => ok_tuple rfl hg hm⟩
theorem gb_sum (E : En p fa fn w K mg base) (hf : He.Fa.free "sum" ∈ fa) (y : YF prog w K mg base kf Y W) (CL : Scope → Expr → Addr → Addr → Heap → Prop) (lq : Str) (hg : Gl Y "sum") (hd : dbgB "sum" = false) : GlobV S ((p.G K).lm CL lq) Y W "sum" (.sum) := by
  have hm := E.free hf
  obtain ⟨e1, e2, e3, e4, e5, e6, r, tk⟩ := y
  subst e1 e2 e3 e4 e5
  exact fun h => ok_sum rfl e6 hg hm
theorem gb_min (E : En p fa fn w K mg base) (hf : He.Fa.free "min" ∈ fa) (y : YF prog w K mg base kf Y W) (CL : Scope → Expr → Addr → Addr → Heap → Prop) (lq : Str) (hg : Gl Y "min") (hd : dbgB "min" = false) : GlobV S ((p.G K).lm CL lq) Y W "min" (.mini) := by
  have hm := E.free hf
  obtain ⟨e1, e2, e3, e4, e5, e6, r, tk⟩ := y
  subst e1 e2 e3 e4 e5
  exact fun h => ok_min rfl e6 hg hm
theorem gb_range (E : En p fa fn w K mg base) (hf : He.Fa.free "range" ∈ fa) (y : YF prog w K mg base kf Y W) (CL : Scope → Expr → Addr → Addr → Heap → Prop) (lq : Str) (hg : Gl Y "range") (hd : dbgB "range" = false) : GlobV S ((p.G K).lm CL lq) Y W "range" (.rng) := by
  have hm := E.free hf
  obtain ⟨e1, e2, e3, e4, e5, e6, r, tk⟩ := y
  subst e1 e2 e3 e4 e5
  exact ⟨rfl, hm⟩
theorem gb_enumerate (E : En p fa fn w K mg base) (hf : He.Fa.free "enumerate" ∈ fa) (y : YF prog w K mg base kf Y W) (CL : Scope → Expr → Addr → Addr → Heap → Prop) (lq : Str) (hg : Gl Y "enumerate") (hd : dbgB "enumerate" = false) : GlobV S ((p.G K).lm CL lq) Y W "enumerate" (.enm) := by
  have hm := E.free hf
  obtain ⟨e1, e2, e3, e4, e5, e6, r, tk⟩ := y
  subst e1 e2 e3 e4 e5
  exact ⟨rfl, hm⟩
theorem gb_zip (E : En p fa fn w K mg base) (hf : He.Fa.free "zip" ∈ fa) (y : YF prog w K mg base kf Y W) (CL : Scope → Expr → Addr → Addr → Heap → Prop) (lq : Str) (hg : Gl Y "zip") (hd : dbgB "zip" = false) : GlobV S ((p.G K).lm CL lq) Y W "zip" (.zip) := by
  have hm := E.free hf
  obtain ⟨e1, e2, e3, e4, e5, e6, r, tk⟩ := y
  subst e1 e2 e3 e4 e5
  exact ⟨rfl, hm⟩
theorem gb_any (E : En p fa fn w K mg base) (hf : He.Fa.free "any" ∈ fa) (y : YF prog w K mg base kf Y W) (CL : Scope → Expr → Addr → Addr → Heap → Prop) (lq : Str) (hg : Gl Y "any") (hd : dbgB "any" = false) : GlobV S ((p.G K).lm CL lq) Y W "any" (.any) := by
  have hm := E.free hf
  obtain ⟨e1, e2, e3, e4, e5, e6, r, tk⟩ := y
  subst e1 e2 e3 e4 e5
  exact ⟨rfl, hm⟩
theorem gb_all (E : En p fa fn w K mg base) (hf : He.Fa.free "all" ∈ fa) (y : YF prog w K mg base kf Y W) (CL : Scope → Expr → Addr → Addr → Heap → Prop) (lq : Str) (hg : Gl Y "all") (hd : dbgB "all" = false) : GlobV S ((p.G K).lm CL lq) Y W "all" (.all) := by
  have hm := E.free hf
  obtain ⟨e1, e2, e3, e4, e5, e6, r, tk⟩ := y
  subst e1 e2 e3 e4 e5
  exact ⟨rfl, hm⟩
theorem gb_exc {x : Str} {c : Nat} (hg : Gl Y x) (hd : dbgB x = false) : GlobV S G Y W x (.exc c) := trivial
theorem gb_kd (E : En p fa fn w K mg base) {x : Str} {i : Nat} (hf : He.Fa.glo x ∈ fa) (hi : (p.kds.getD i ("", [])).1 = x) (y : YF prog w K mg base kf Y W) (CL : Scope → Expr → Addr → Addr → Heap → Prop) (lq : Str) (hg : Gl Y x) (hd : dbgB x = false) : GlobV S ((p.G K).lm CL lq) Y W x (.val (.kd i)) := by
  have hm := E.glo hf
  obtain ⟨e1, e2, e3, e4, e5, e6, r, tk⟩ := y
  subst e1 e2 e3 e4 e5
  exact ⟨.ref (He.ga Y.K (p.kds.getD i ("", [])).1), _, hm, by rw [hi]; rfl, fun h μ H => .kd i⟩
theorem gb_val (E : En p fa fn w K mg base) {x : Str} {i : Int} (hf : He.Fa.int x i ∈ fa) (y : YF prog w K mg base kf Y W) (CL : Scope → Expr → Addr → Addr → Heap → Prop) (lq : Str) (hg : Gl Y x) (hd : dbgB x = false) : GlobV S ((p.G K).lm CL lq) Y W x (.val (.int i)) := by
  obtain ⟨t, hm⟩ := He.int_ok E.KX E.g (E.d.facts hf)
  obtain ⟨e1, e2, e3, e4, e5, e6, r, tk⟩ := y
  subst e1 e2 e3 e4 e5
  exact ⟨.int i, _, hm, ⟨t, rfl⟩, fun h μ H => .int i⟩
/-- the def that calls a lambda, by the head's facts -/
theorem gb_told (E : En p fa fn w K mg base) {dd : He.DefD} (hd : dd ∈ fn) {x a e : Str} {Ng : List Str} {j : Nat} {p1 p2 p3 p4 p5 p6 p7 p8 : Pos} (hx : dd.at_ = (x, none)) (hn : dd.name = x) (hq : dd.qual = x) (hgf : He.Fa.glo x ∈ fa) (hge : He.Fa.glo e ∈ fa)
    (hb : dd.body = [.Try [.Return (some (.Call (.Name a p1) [] [] p2)) p3] [.ExceptHandler (some (.Name e p4)) none [.Return (some (.Constant (.str S.toldS) j p5)) p6] p7] [] [] p8]) (hS : FnScope Ng [a] dd.scope) (hNg : Ng[0]? = some a) (hva : Vis dd.scope a) (ha1 : (a == ("__debug__" : Str)) = false) (ha2 : (a == ("__classdict__" : Str)) = false)
    (hsc : dd.scope.names.lookup e = some .globalImplicit) (he : (e == ("__debug__" : Str)) = false) (hdf : dd.dfl = []) (hbind : ∀ (kV doc pm : Value) (an : Option Addr) (cdv ct : Value) (us : List Value), us.length = 1 → bindArgs (PySem.W.fnOf dd.name dd.qual dd.params dd.body dd.scope .none kV doc pm an cdv ct) ⟨us, []⟩ = pure ([a].zip us))
    (hc : ∀ c, S.caught c = true → He.Fa.exm (p.excs.getD c "") e true ∈ fa) (y : YF prog w K mg base kf Y W) (CL : Scope → Expr → Addr → Addr → Heap → Prop) (lq : Str) (hg : Gl Y x) (hdb : dbgB x = false) : GlobV S ((p.G K).lm CL lq) Y W x .told := by
  obtain ⟨fd, F⟩ := E.d.defs hd
  obtain ⟨oc, od, dV, kV, doc, pm, an, cdv, ct, osl, efd, lk, hcd, hdv, hkw⟩ := F.ex
  have hdfl : dd.dvs K = [] := by unfold He.DefD.dvs; rw [hdf]; rfl
  rw [hdfl] at hdv
  have hdV : dV = .none := hdv.elim (fun z => z.2) fun z => absurd rfl z.1
  subst hdV
  have hm := E.glo hgf
  have hme := E.glo hge
  have kp := F.kp
  have ad : He.fAd K dd.at_ = He.ga K x := by rw [hx]; rfl
  have hexm := fun c h => He.exm_ok (E.d.facts (hc c h))
  have hlen : ∀ f : Addr, (L2.start Ng [V.ref f])[0]? = some (some (V.ref f)) := fun f => rfl
  rw [efd] at lk
  rw [hb] at lk
  have hbind2 : L2.Binds K (PySem.W.fnOf x x dd.params [.Try [.Return (some (.Call (.Name a p1) [] [] p2)) p3] [.ExceptHandler (some (.Name e p4)) none [.Return (some (.Constant (.str S.toldS) j p5)) p6] p7] [] [] p8] dd.scope .none kV doc pm an cdv ct) [a] [] := by
    refine Binds.all fun us hu => ?_
    have := hbind kV doc pm an cdv ct us hu
    rw [hb, hn, hq] at this
    exact this
  rw [hn, hq] at lk
  rw [hq] at hcd
  rw [ad] at lk kp
  obtain ⟨e1, e2, e3, e4, e5, e6, r, tk⟩ := y
  subst e1 e2 e3 e4 e5
  exact ⟨_, ⟨⟨_, a, e, Ng, dd.params, dd.scope, .none, kV, doc, pm, cdv, ct, oc, an, od, osl, j, p1, p2, p3, p4, p5, p6, p7, p8, hm, kp, lk, hcd, hbind2, hS, hNg, hva, ha1, ha2, hsc, hme, he, hlen⟩⟩, hexm⟩
end
/-! ## The end of a law -/
def PC.ex (p : PC) (K : PySem.W.Frag) : Bool := (p.kds.all fun q => kdB K (He.ga K q.1) q.2) && decide (p.tf.map fun q => (He.cT K q.1).2).Nodup
def PC.ts (p : PC) : List He.Tab := p.kds.map fun q => (fun K => He.ga K q.1, q.2.map (·.1))
theorem says_kd {p : PC} {fa : List He.Fa} {fn : List He.DefD} {w : World} {K : PySem.W.Frag} (c : He.SaysT fa fn p.ts w K) {q : Str × List (Str × Int)} (hq : q ∈ p.kds) : He.dicW K (He.ga K q.1) = some (He.keysIn w.params (q.2.map (·.1))) := by
  have e : p.ts.map (fun t => He.dicW K (t.1 K)) = p.ts.map fun t => some (He.keysIn w.params t.2) := congrArg (fun z : He.AlT => z.2) c
  unfold PC.ts at e
  rw [List.map_map, List.map_map] at e
  exact List.map_inj_left.mp e q hq
theorem law_end (p : PC) (fa : List He.Fa) (fn : List He.DefD) (l : PySem.W.OpenLaw) (k : Nat) (F : Fn) (hkd : ∀ q ∈ p.kds, ((kdV q.2).map (·.1)).Nodup ∧ q.2.length ≤ sizeLine)
    (hok : ∀ (w : World) (K : PySem.W.Frag) (mg : Str → Option Value) (base : Heap), En p fa fn w K mg base → DOk l.prog w K mg base (p.G K) "law" ["script"] 1 F k)
    {dd : He.DefD} (hdd : dd ∈ fn) (hat : dd.at_ = (("law" : Str), none)) (hgl : He.Fa.glo "law" ∈ fa) (hdf : dd.dfl = []) (hb : ∀ (kV doc pm : Value) (an : Option Addr) (cdv ct : Value) (u : Value), bindArgs (PySem.W.fnOf dd.name dd.qual dd.params dd.body dd.scope .none kV doc pm an cdv ct) ⟨[u], []⟩ = pure [(("script" : Str), u)])
    (hlaw : ∀ ns : List Int, ns.length ≤ 63 → (∀ z ∈ ns, Builtin.Int.intBits z ≤ 1048576) → ∃ st, F [.scr ns] [] = .ok (.bl true) st)
    (w : World) (mg : Str → Option Value) (f : Addr) (h : Heap) (hY : ∃ K : PySem.W.Frag, K.In h ∧ He.SaysX fa fn p.ts (p.tf.map (·.1)) p.ex w h K) (hg : h.Ns mainGlobals mg) (hmg : mg "law" = some (.ref f)) :
    ∃ K : PySem.W.Frag, K.In h ∧ LamX.LawAtS l w K (L2.CX l.prog w) k 63 "script" mg f h := by
  obtain ⟨K, KX, c⟩ := hY
  refine ⟨K, KX, ?_⟩
  obtain ⟨m1, m2⟩ := He.ba c.more
  have mem : ∀ q ∈ p.tf, q.1 ∈ p.tf.map (·.1) := fun q hq => List.mem_map.mpr ⟨q, hq, rfl⟩
  have cs : ∀ q ∈ p.tf.map (fun q => He.cT K q.1), ∃ r ∈ p.tf.map (·.1), q = He.cT K r := fun q hq => by
    obtain ⟨r, hr, rfl⟩ := List.mem_map.mp hq
    exact ⟨r.1, mem r hr, rfl⟩
  have en : ∀ base : Heap, K.In base → base.Ns mainGlobals mg → (∀ q ∈ p.tf.map (fun q => He.cT K q.1), LamX.TabB base mg q.1 q.2) → En p fa fn w K mg base := fun base hK hG hT =>
    ⟨c.t.d, fun q hq => ⟨⟨says_kd c.t hq, List.all_eq_true.mp m1 q hq⟩, hkd q hq⟩, of_decide_eq_true m2, hK, hG, fun q hq => by
      obtain ⟨t1, t2, t3⟩ := hT _ (List.mem_map.mpr ⟨q, hq, rfl⟩)
      exact ⟨t1, t2, t3⟩⟩
  obtain ⟨fd, FD⟩ := c.t.d.defs hdd
  have ef : f = He.ga K "law" := by
    have := He.glo_ok KX hg (c.t.d.facts hgl)
    rw [hmg] at this
    exact Value.ref.inj (Option.some.inj this)
  obtain ⟨oc, od, dV, kV, doc, pm, an, cdv, ct, osl, efd, lk, _, hdv, _⟩ := FD.ex
  have hdfl : dd.dvs K = [] := by unfold He.DefD.dvs; rw [hdf]; rfl
  rw [hdfl] at hdv
  have hdV : dV = .none := hdv.elim (fun z => z.2) fun z => absurd rfl z.1
  subst hdV
  refine ⟨fd, p.tf.map (fun q => He.cT K q.1), spF (p.G K) 1 F, fun q hq => ?_, fun q hq => ?_, fun q hq => ?_, fun s u => ?_, fun H a ns hl hbits hT hS => ?_, fun base hK hG hT => ?_⟩
  · obtain ⟨r, hr, rfl⟩ := cs q hq; exact c.empty r hr
  · obtain ⟨r, hr, rfl⟩ := cs q hq; exact c.out r hr
  · obtain ⟨r, hr, rfl⟩ := cs q hq; exact PySem.W.codeHd_of_K KX (c.hd r hr)
  · rw [efd]; exact .of_eq (hb _ _ _ _ _ _ u)
  · obtain ⟨st, e⟩ := hlaw ns hl hbits
    refine ⟨rfl, [], [.scr ns], [], ⟨rfl, List.nodup_nil, fun l o a h => by simp at h, fun q hq => ?_, fun a ha => by cases ha⟩, .cons ?_ .nil, ?_⟩
    · obtain ⟨r, hr, rfl⟩ := List.mem_map.mp hq
      exact ⟨#[], hT _ (List.mem_map.mpr ⟨r, hr, rfl⟩), trivial, fun pos cv hc => by
        have z : codeAmong pos [] = some cv := hc
        simp [codeAmong] at z⟩
    · rcases hS with hS | hS
      · exact .scr ⟨by simp, by show a ∉ []; simp⟩ hS
      · exact .scrK hS
    · rw [e]
      intro μ' H' v _ _ r
      cases r
      rfl
  · obtain ⟨f', fd', e1, e2, ⟨⟨oc', od', osl', lk'⟩, e3⟩, e4, e5⟩ := (hok w K mg base (en base hK hG hT)).ex
    have e6 : f' = f := by rw [hmg] at e1; exact (Value.ref.inj (Option.some.inj e1)).symm
    subst e6
    have e7 : He.fAd K dd.at_ = f' := by rw [hat, ef]; rfl
    rw [e7, lk'] at lk
    cases lk
    exact e4 (p.G K).CL (p.G K).lq []
end Bk

namespace K03
open L2 PyProof.Rows PySem.Spec PySem Bk
def top (i : Nat) : Stmt := PySem.Challenge.pw_bankstack_k03_numbers_that_check.main.body.getD i (.Pass ⟨0, 0, 0, 0⟩)
def pc : PC where
  tf := [(("with_check", none), "with_check.<locals>.<lambda>"), (("is_good", none), "is_good.<locals>.<lambda>"), (("slips_of", none), "slips_of.<locals>.<lambda>"), (("missing", none), "missing.<locals>.<lambda>"), (("_law_plain", none), "_law_plain.<locals>.<lambda>"), (("law", none), "law.<locals>.<lambda>")]
  lamP := [⟨104, 0, 104, 16⟩, ⟨105, 0, 105, 17⟩, ⟨106, 0, 106, 19⟩, ⟨107, 0, 107, 29⟩, ⟨108, 0, 108, 29⟩, ⟨109, 0, 109, 39⟩, ⟨110, 0, 110, 22⟩, ⟨111, 0, 111, 33⟩, ⟨112, 0, 112, 16⟩, ⟨113, 0, 113, 26⟩, ⟨114, 0, 114, 22⟩, ⟨115, 0, 115, 23⟩, ⟨116, 0, 116, 32⟩, ⟨117, 0, 117, 34⟩, ⟨118, 0, 118, 21⟩, ⟨119, 0, 119, 28⟩, ⟨120, 0, 120, 29⟩, ⟨121, 0, 121, 39⟩, ⟨122, 0, 122, 28⟩, ⟨151, 134, 151, 152⟩, ⟨172, 25, 172, 58⟩]
  excs := ["BankError", "NumberError"]
  kds := [("LANDS", [("at", 16), ("be", 12), ("ch", 17), ("fi", 14), ("no", 11)])]
def pc_kc : Nat → List (Str × Int) := fun i => (pc.kds.getD i ("", [])).2
abbrev st_rest : Stmt := top 6
def dd_rest : He.DefD := ⟨("rest", none), "rest", "rest", defArgs st_rest, defBody st_rest, defScope st_rest, [], []⟩
def gl_rest : List (Str × GV) := [("NumberError", .exc 1)]
def S_rest : SEnv where
  kc := pc_kc
  N := ["text", "found", "sign", "place"]
  mu := fun p => [].contains (p.line, p.col)
  glob := glook gl_rest
  lamP := pc.lamP
  caught := fun c => [1].contains c
  kf := 0
  toldS := "NumberError"
def F_rest : Fn := semF S_rest false false false 60 1 (defScope st_rest) (defBody st_rest)
abbrev st_with_check : Stmt := top 7
def dd_with_check : He.DefD := ⟨("with_check", none), "with_check", "with_check", defArgs st_with_check, defBody st_with_check, defScope st_with_check, [], []⟩
def gl_with_check : List (Str × GV) := [("LANDS", .val (.kd 0)), ("any", .any), ("NumberError", .exc 1), ("rest", .fn F_rest), ("len", .blt bLen), ("str", .blt bStr)]
def S_with_check : SEnv where
  kc := pc_kc
  N := ["land", "figures", "check", "sign"]
  mu := fun p => [].contains (p.line, p.col)
  glob := glook gl_with_check
  lamP := pc.lamP
  caught := fun c => [1].contains c
  kf := 5
  toldS := "NumberError"
def F_with_check : Fn := semF S_with_check false false true 60 2 (defScope st_with_check) (defBody st_with_check)
abbrev st_is_good : Stmt := top 8
def dd_is_good : He.DefD := ⟨("is_good", none), "is_good", "is_good", defArgs st_is_good, defBody st_is_good, defScope st_is_good, [], []⟩
def gl_is_good : List (Str × GV) := [("LANDS", .val (.kd 0)), ("any", .any), ("len", .blt bLen), ("int", .blt bInt), ("rest", .fn F_rest)]
def S_is_good : SEnv where
  kc := pc_kc
  N := ["number", "land", "check", "figures", "sign"]
  mu := fun p => [].contains (p.line, p.col)
  glob := glook gl_is_good
  lamP := pc.lamP
  caught := fun c => [1].contains c
  kf := 5
  toldS := "NumberError"
def F_is_good : Fn := semF S_is_good false false true 60 1 (defScope st_is_good) (defBody st_is_good)
abbrev st_parted : Stmt := top 9
def dd_parted : He.DefD := ⟨("parted", none), "parted", "parted", defArgs st_parted, defBody st_parted, defScope st_parted, [], []⟩
def gl_parted : List (Str × GV) := [("is_good", .fn F_is_good), ("NumberError", .exc 1), ("range", .rng), ("len", .blt bLen)]
def S_parted : SEnv where
  kc := pc_kc
  N := ["number", "place"]
  mu := fun p => [].contains (p.line, p.col)
  glob := glook gl_parted
  lamP := pc.lamP
  caught := fun c => [1].contains c
  kf := 10
  toldS := "NumberError"
def F_parted : Fn := semF S_parted false false false 60 1 (defScope st_parted) (defBody st_parted)
abbrev st_read : Stmt := top 10
def dd_read : He.DefD := ⟨("read", none), "read", "read", defArgs st_read, defBody st_read, defScope st_read, [], []⟩
def gl_read : List (Str × GV) := [("is_good", .fn F_is_good), ("NumberError", .exc 1)]
def S_read : SEnv where
  kc := pc_kc
  N := ["text", "found", "sign", "place"]
  mu := fun p => [].contains (p.line, p.col)
  glob := glook gl_read
  lamP := pc.lamP
  caught := fun c => [1].contains c
  kf := 10
  toldS := "NumberError"
def F_read : Fn := semF S_read false false false 60 1 (defScope st_read) (defBody st_read)
abbrev st_slips_of : Stmt := top 11
def dd_slips_of : He.DefD := ⟨("slips_of", none), "slips_of", "slips_of", defArgs st_slips_of, defBody st_slips_of, defScope st_slips_of, [], []⟩
def gl_slips_of : List (Str × GV) := [("range", .rng), ("tuple", .tupl), ("LANDS", .val (.kd 0)), ("NumberError", .exc 1), ("len", .blt bLen), ("sorted", .srt), ("is_good", .fn F_is_good)]
def S_slips_of : SEnv where
  kc := pc_kc
  N := ["number", "found", "place", "sign", "one"]
  mu := fun p => [(45, 12)].contains (p.line, p.col)
  glob := glook gl_slips_of
  lamP := pc.lamP
  caught := fun c => [1].contains c
  kf := 10
  toldS := "NumberError"
def F_slips_of : Fn := semF S_slips_of false false true 60 1 (defScope st_slips_of) (defBody st_slips_of)
abbrev st_missing : Stmt := top 12
def dd_missing : He.DefD := ⟨("missing", none), "missing", "missing", defArgs st_missing, defBody st_missing, defScope st_missing, [], []⟩
def gl_missing : List (Str × GV) := [("tuple", .tupl), ("LANDS", .val (.kd 0)), ("NumberError", .exc 1), ("sorted", .srt), ("len", .blt bLen), ("is_good", .fn F_is_good)]
def S_missing : SEnv where
  kc := pc_kc
  N := ["number", "rows", "sign", "row", "one"]
  mu := fun p => [].contains (p.line, p.col)
  glob := glook gl_missing
  lamP := pc.lamP
  caught := fun c => [1].contains c
  kf := 10
  toldS := "NumberError"
def F_missing : Fn := semF S_missing false false true 60 1 (defScope st_missing) (defBody st_missing)
abbrev st_serial : Stmt := top 13
def dd_serial : He.DefD := ⟨("serial", none), "serial", "serial", defArgs st_serial, defBody st_serial, defScope st_serial, [], []⟩
def gl_serial : List (Str × GV) := [("str", .blt bStr), ("with_check", .fn F_with_check), ("LANDS", .val (.kd 0)), ("NumberError", .exc 1), ("len", .blt bLen)]
def S_serial : SEnv where
  kc := pc_kc
  N := ["land", "bank", "count", "figures"]
  mu := fun p => [].contains (p.line, p.col)
  glob := glook gl_serial
  lamP := pc.lamP
  caught := fun c => [1].contains c
  kf := 10
  toldS := "NumberError"
def F_serial : Fn := semF S_serial false false false 60 3 (defScope st_serial) (defBody st_serial)
abbrev st_law_dice : Stmt := top 15
def dd_law_dice : He.DefD := ⟨("_law_dice", none), "_law_dice", "_law_dice", defArgs st_law_dice, defBody st_law_dice, defScope st_law_dice, [], []⟩
def gl_law_dice : List (Str × GV) := [("int", .blt bInt), ("abs", .blt bAbs)]
def S_law_dice : SEnv where
  kc := pc_kc
  N := ["cell"]
  mu := fun p => [(68, 11), (67, 15)].contains (p.line, p.col)
  glob := glook gl_law_dice
  lamP := pc.lamP
  caught := fun c => [1].contains c
  kf := 0
  toldS := "NumberError"
def F_law_dice : Fn := semF S_law_dice true false false 60 1 (defScope st_law_dice) (defBody st_law_dice)
abbrev st_law_roll : Stmt := top 16
def dd_law_roll : He.DefD := ⟨("_law_roll", none), "_law_roll", "_law_roll", defArgs st_law_roll, defBody st_law_roll, defScope st_law_roll, [], []⟩
def gl_law_roll : List (Str × GV) := [("int", .blt bInt)]
def S_law_roll : SEnv where
  kc := pc_kc
  N := ["dice", "many", "found"]
  mu := fun p => [].contains (p.line, p.col)
  glob := glook gl_law_roll
  lamP := pc.lamP
  caught := fun c => [1].contains c
  kf := 0
  toldS := "NumberError"
def F_law_roll : Fn := semF S_law_roll false false false 60 2 (defScope st_law_roll) (defBody st_law_roll)
abbrev st_law_rounds : Stmt := top 17
def dd_law_rounds : He.DefD := ⟨("_law_rounds", none), "_law_rounds", "_law_rounds", defArgs st_law_rounds, defBody st_law_rounds, defScope st_law_rounds, [], []⟩
def gl_law_rounds : List (Str × GV) := [("_law_dice", .fn F_law_dice)]
def S_law_rounds : SEnv where
  kc := pc_kc
  N := ["script", "most", "cells", "cell"]
  mu := fun p => [].contains (p.line, p.col)
  glob := glook gl_law_rounds
  lamP := pc.lamP
  caught := fun c => [1].contains c
  kf := 5
  toldS := "NumberError"
def F_law_rounds : Fn := semF S_law_rounds true false false 60 2 (defScope st_law_rounds) (defBody st_law_rounds)
abbrev st_law_told : Stmt := top 18
def dd_law_told : He.DefD := ⟨("_law_told", none), "_law_told", "_law_told", defArgs st_law_told, defBody st_law_told, defScope st_law_told, [], []⟩
abbrev st_law_rest : Stmt := top 19
def dd_law_rest : He.DefD := ⟨("_law_rest", none), "_law_rest", "_law_rest", defArgs st_law_rest, defBody st_law_rest, defScope st_law_rest, [], []⟩
def gl_law_rest : List (Str × GV) := [("int", .blt bInt), ("str", .blt bStr)]
def S_law_rest : SEnv where
  kc := pc_kc
  N := ["text", "figures", "sign"]
  mu := fun p => [].contains (p.line, p.col)
  glob := glook gl_law_rest
  lamP := pc.lamP
  caught := fun c => [1].contains c
  kf := 0
  toldS := "NumberError"
def F_law_rest : Fn := semF S_law_rest false false false 60 1 (defScope st_law_rest) (defBody st_law_rest)
abbrev st_law_good : Stmt := top 20
def dd_law_good : He.DefD := ⟨("_law_good", none), "_law_good", "_law_good", defArgs st_law_good, defBody st_law_good, defScope st_law_good, [], []⟩
def gl_law_good : List (Str × GV) := [("len", .blt bLen), ("int", .blt bInt), ("_law_rest", .fn F_law_rest)]
def S_law_good : SEnv where
  kc := pc_kc
  N := ["number", "sizes", "land", "figures", "sign"]
  mu := fun p => [].contains (p.line, p.col)
  glob := glook gl_law_good
  lamP := pc.lamP
  caught := fun c => [1].contains c
  kf := 5
  toldS := "NumberError"
def F_law_good : Fn := semF S_law_good false false false 60 1 (defScope st_law_good) (defBody st_law_good)
abbrev st_law_plain : Stmt := top 21
def dd_law_plain : He.DefD := ⟨("_law_plain", none), "_law_plain", "_law_plain", defArgs st_law_plain, defBody st_law_plain, defScope st_law_plain, [], []⟩
def gl_law_plain : List (Str × GV) := [("with_check", .fn F_with_check), ("MOST_FIGURES", .val (.int 17)), ("rest", .fn F_rest), ("parted", .fn F_parted), ("read", .fn F_read), ("slips_of", .fn F_slips_of), ("missing", .fn F_missing), ("serial", .fn F_serial), ("dict", .blt (bDictX pc_kc)), ("LANDS", .val (.kd 0)), ("is_good", .fn F_is_good), ("_law_told", .told)]
def S_law_plain : SEnv where
  kc := pc_kc
  N := ["number", "bad", "f"]
  mu := fun p => [].contains (p.line, p.col)
  glob := glook gl_law_plain
  lamP := pc.lamP
  caught := fun c => [1].contains c
  kf := 15
  toldS := "NumberError"
def F_law_plain : Fn := semF S_law_plain false true false 60 0 (defScope st_law_plain) (defBody st_law_plain)
abbrev st_law : Stmt := top 22
def dd_law : He.DefD := ⟨("law", none), "law", "law", defArgs st_law, defBody st_law, defScope st_law, [], []⟩
def gl_law : List (Str × GV) := [("_law_rounds", .fn F_law_rounds), ("_law_plain", .fn F_law_plain), ("with_check", .fn F_with_check), ("range", .rng), ("sorted", .srt), ("_law_told", .told), ("_law_roll", .fn F_law_roll), ("is_good", .fn F_is_good), ("rest", .fn F_rest), ("_law_rest", .fn F_law_rest), ("len", .blt bLen), ("dict", .blt (bDictX pc_kc)), ("str", .blt bStr), ("_law_good", .fn F_law_good), ("parted", .fn F_parted), ("read", .fn F_read), ("list", .blt bListS), ("missing", .fn F_missing), ("LANDS", .val (.kd 0)), ("serial", .fn F_serial), ("slips_of", .fn F_slips_of), ("enumerate", .enm)]
def S_law : SEnv where
  kc := pc_kc
  N := ["script", "lands", "dice", "land", "figures", "number", "ready", "text", "bent", "groups", "large", "near", "k", "due", "places", "holed", "rows", "sign", "zeros", "told", "fresh", "row", "bank", "count", "check", "j", "one"]
  mu := fun p => [].contains (p.line, p.col)
  glob := glook gl_law
  lamP := pc.lamP
  caught := fun c => [1].contains c
  kf := 20
  toldS := "NumberError"
def F_law : Fn := semF S_law false true false 60 1 (defScope st_law) (defBody st_law)
def fn : List He.DefD := [dd_rest, dd_with_check, dd_is_good, dd_parted, dd_read, dd_slips_of, dd_missing, dd_serial, dd_law_dice, dd_law_roll, dd_law_rounds, dd_law_told, dd_law_rest, dd_law_good, dd_law_plain, dd_law]
def fa : List He.Fa := [.glo "BankError", .glo "NumberError", .glo "LANDS", .glo "rest", .glo "with_check", .glo "is_good", .glo "parted", .glo "read", .glo "slips_of", .glo "missing", .glo "serial", .glo "_law_dice", .glo "_law_roll", .glo "_law_rounds", .glo "_law_told", .glo "_law_rest", .glo "_law_good", .glo "_law_plain", .glo "law", .free "len", .free "abs", .free "int", .free "str", .free "dict", .free "list", .free "sorted", .free "tuple", .free "any", .free "range", .free "enumerate", .int "MOST_FIGURES" 17, .exc "NumberError", .exm "NumberError" "NumberError" true]
theorem caught_ok : ∀ c, [1].contains c = true → He.Fa.exm (pc.excs.getD c "") "NumberError" true ∈ fa := by
  intro c hc
  have h : c ∈ [1] := List.contains_iff_mem.mp hc
  rcases List.mem_cons.mp h with rfl | h
  · exact (List.mem_of_getElem? (i := 32) rfl)
  cases h
section
variable {w : World} {K : PySem.W.Frag} {mg : Str → Option Value} {base : Heap}
theorem ok_rest (E : En pc fa fn w K mg base) : DOk PySem.Challenge.pw_bankstack_k03_numbers_that_check w K mg base (pc.G K) "rest" ["text"] 1 F_rest 5 :=
  def_dok E (dd := dd_rest) (List.mem_of_getElem? (i := 0) rfl) "rest" ["text"] S_rest.N S_rest false false false 60 1 gl_rest rfl rfl rfl (List.mem_of_getElem? (i := 3) rfl) ⟨rfl, rfl, rfl, by decide +kernel, rfl, by decide +kernel, by decide +kernel⟩ rfl rfl rfl rfl rfl
    (fun _ _ _ _ _ _ us hl => match us, hl with | [_], _ => rfl) ((fun z => by rcases z with z | z <;> cases z))
    (fun Y W CL lq y => gl_cons (gb_exc)
    (gl_nil))
    (fun Y W y => ra_cons (fun c e hy hd => by cases e; exact raise_of E (List.mem_of_getElem? (i := 31) rfl) (List.mem_of_getElem? (i := 1) rfl) rfl y hy hd) (ra_nil))
theorem ok_with_check (E : En pc fa fn w K mg base) : DOk PySem.Challenge.pw_bankstack_k03_numbers_that_check w K mg base (pc.G K) "with_check" ["land", "figures"] 2 F_with_check 10 :=
  def_dok E (dd := dd_with_check) (List.mem_of_getElem? (i := 1) rfl) "with_check" ["land", "figures"] S_with_check.N S_with_check false false true 60 2 gl_with_check rfl rfl rfl (List.mem_of_getElem? (i := 4) rfl) ⟨rfl, rfl, rfl, by decide +kernel, rfl, by decide +kernel, by decide +kernel⟩ rfl rfl rfl rfl rfl
    (fun _ _ _ _ _ _ us hl => match us, hl with | [_, _], _ => rfl) (fun _ => (List.mem_of_getElem? (i := 0) rfl))
    (fun Y W CL lq y => gl_cons (gb_kd E (List.mem_of_getElem? (i := 2) rfl) rfl y CL lq)
    (gl_cons (gb_any E (List.mem_of_getElem? (i := 27) rfl) y CL lq)
    (gl_cons (gb_exc)
    (gl_cons ((ok_rest E).glob y (by decide) CL lq)
    (gl_cons (gb_len E (List.mem_of_getElem? (i := 19) rfl) y CL lq)
    (gl_cons (gb_str E (List.mem_of_getElem? (i := 22) rfl) y CL lq)
    (gl_nil)))))))
    (fun Y W y => ra_cons (fun c e => by cases e) (ra_cons (fun c e => by cases e) (ra_cons (fun c e hy hd => by cases e; exact raise_of E (List.mem_of_getElem? (i := 31) rfl) (List.mem_of_getElem? (i := 1) rfl) rfl y hy hd) (ra_cons (fun c e => by cases e) (ra_cons (fun c e => by cases e) (ra_cons (fun c e => by cases e) (ra_nil)))))))
theorem ok_is_good (E : En pc fa fn w K mg base) : DOk PySem.Challenge.pw_bankstack_k03_numbers_that_check w K mg base (pc.G K) "is_good" ["number"] 1 F_is_good 10 :=
  def_dok E (dd := dd_is_good) (List.mem_of_getElem? (i := 2) rfl) "is_good" ["number"] S_is_good.N S_is_good false false true 60 1 gl_is_good rfl rfl rfl (List.mem_of_getElem? (i := 5) rfl) ⟨rfl, rfl, rfl, by decide +kernel, rfl, by decide +kernel, by decide +kernel⟩ rfl rfl rfl rfl rfl
    (fun _ _ _ _ _ _ us hl => match us, hl with | [_], _ => rfl) (fun _ => (List.mem_of_getElem? (i := 1) rfl))
    (fun Y W CL lq y => gl_cons (gb_kd E (List.mem_of_getElem? (i := 2) rfl) rfl y CL lq)
    (gl_cons (gb_any E (List.mem_of_getElem? (i := 27) rfl) y CL lq)
    (gl_cons (gb_len E (List.mem_of_getElem? (i := 19) rfl) y CL lq)
    (gl_cons (gb_int E (List.mem_of_getElem? (i := 21) rfl) y CL lq)
    (gl_cons ((ok_rest E).glob y (by decide) CL lq)
    (gl_nil))))))
    (fun Y W y => ra_cons (fun c e => by cases e) (ra_cons (fun c e => by cases e) (ra_cons (fun c e => by cases e) (ra_cons (fun c e => by cases e) (ra_cons (fun c e => by cases e) (ra_nil))))))
theorem ok_parted (E : En pc fa fn w K mg base) : DOk PySem.Challenge.pw_bankstack_k03_numbers_that_check w K mg base (pc.G K) "parted" ["number"] 1 F_parted 15 :=
  def_dok E (dd := dd_parted) (List.mem_of_getElem? (i := 3) rfl) "parted" ["number"] S_parted.N S_parted false false false 60 1 gl_parted rfl rfl rfl (List.mem_of_getElem? (i := 6) rfl) ⟨rfl, rfl, rfl, by decide +kernel, rfl, by decide +kernel, by decide +kernel⟩ rfl rfl rfl rfl rfl
    (fun _ _ _ _ _ _ us hl => match us, hl with | [_], _ => rfl) ((fun z => by rcases z with z | z <;> cases z))
    (fun Y W CL lq y => gl_cons ((ok_is_good E).glob y (by decide) CL lq)
    (gl_cons (gb_exc)
    (gl_cons (gb_range E (List.mem_of_getElem? (i := 28) rfl) y CL lq)
    (gl_cons (gb_len E (List.mem_of_getElem? (i := 19) rfl) y CL lq)
    (gl_nil)))))
    (fun Y W y => ra_cons (fun c e => by cases e) (ra_cons (fun c e hy hd => by cases e; exact raise_of E (List.mem_of_getElem? (i := 31) rfl) (List.mem_of_getElem? (i := 1) rfl) rfl y hy hd) (ra_cons (fun c e => by cases e) (ra_cons (fun c e => by cases e) (ra_nil)))))
theorem ok_read (E : En pc fa fn w K mg base) : DOk PySem.Challenge.pw_bankstack_k03_numbers_that_check w K mg base (pc.G K) "read" ["text"] 1 F_read 15 :=
  def_dok E (dd := dd_read) (List.mem_of_getElem? (i := 4) rfl) "read" ["text"] S_read.N S_read false false false 60 1 gl_read rfl rfl rfl (List.mem_of_getElem? (i := 7) rfl) ⟨rfl, rfl, rfl, by decide +kernel, rfl, by decide +kernel, by decide +kernel⟩ rfl rfl rfl rfl rfl
    (fun _ _ _ _ _ _ us hl => match us, hl with | [_], _ => rfl) ((fun z => by rcases z with z | z <;> cases z))
    (fun Y W CL lq y => gl_cons ((ok_is_good E).glob y (by decide) CL lq)
    (gl_cons (gb_exc)
    (gl_nil)))
    (fun Y W y => ra_cons (fun c e => by cases e) (ra_cons (fun c e hy hd => by cases e; exact raise_of E (List.mem_of_getElem? (i := 31) rfl) (List.mem_of_getElem? (i := 1) rfl) rfl y hy hd) (ra_nil)))
theorem ok_slips_of (E : En pc fa fn w K mg base) : DOk PySem.Challenge.pw_bankstack_k03_numbers_that_check w K mg base (pc.G K) "slips_of" ["number"] 1 F_slips_of 15 :=
  def_dok E (dd := dd_slips_of) (List.mem_of_getElem? (i := 5) rfl) "slips_of" ["number"] S_slips_of.N S_slips_of false false true 60 1 gl_slips_of rfl rfl rfl (List.mem_of_getElem? (i := 8) rfl) ⟨rfl, rfl, rfl, by decide +kernel, rfl, by decide +kernel, by decide +kernel⟩ rfl rfl rfl rfl rfl
    (fun _ _ _ _ _ _ us hl => match us, hl with | [_], _ => rfl) (fun _ => (List.mem_of_getElem? (i := 2) rfl))
    (fun Y W CL lq y => gl_cons (gb_range E (List.mem_of_getElem? (i := 28) rfl) y CL lq)
    (gl_cons (gb_tuple E (List.mem_of_getElem? (i := 26) rfl) y CL lq)
    (gl_cons (gb_kd E (List.mem_of_getElem? (i := 2) rfl) rfl y CL lq)
    (gl_cons (gb_exc)
    (gl_cons (gb_len E (List.mem_of_getElem? (i := 19) rfl) y CL lq)
    (gl_cons (gb_sorted E (List.mem_of_getElem? (i := 25) rfl) y CL lq)
    (gl_cons ((ok_is_good E).glob y (by decide) CL lq)
    (gl_nil))))))))
    (fun Y W y => ra_cons (fun c e => by cases e) (ra_cons (fun c e => by cases e) (ra_cons (fun c e => by cases e) (ra_cons (fun c e hy hd => by cases e; exact raise_of E (List.mem_of_getElem? (i := 31) rfl) (List.mem_of_getElem? (i := 1) rfl) rfl y hy hd) (ra_cons (fun c e => by cases e) (ra_cons (fun c e => by cases e) (ra_cons (fun c e => by cases e) (ra_nil))))))))
theorem ok_missing (E : En pc fa fn w K mg base) : DOk PySem.Challenge.pw_bankstack_k03_numbers_that_check w K mg base (pc.G K) "missing" ["number"] 1 F_missing 15 :=
  def_dok E (dd := dd_missing) (List.mem_of_getElem? (i := 6) rfl) "missing" ["number"] S_missing.N S_missing false false true 60 1 gl_missing rfl rfl rfl (List.mem_of_getElem? (i := 9) rfl) ⟨rfl, rfl, rfl, by decide +kernel, rfl, by decide +kernel, by decide +kernel⟩ rfl rfl rfl rfl rfl
    (fun _ _ _ _ _ _ us hl => match us, hl with | [_], _ => rfl) (fun _ => (List.mem_of_getElem? (i := 3) rfl))
    (fun Y W CL lq y => gl_cons (gb_tuple E (List.mem_of_getElem? (i := 26) rfl) y CL lq)
    (gl_cons (gb_kd E (List.mem_of_getElem? (i := 2) rfl) rfl y CL lq)
    (gl_cons (gb_exc)
    (gl_cons (gb_sorted E (List.mem_of_getElem? (i := 25) rfl) y CL lq)
    (gl_cons (gb_len E (List.mem_of_getElem? (i := 19) rfl) y CL lq)
    (gl_cons ((ok_is_good E).glob y (by decide) CL lq)
    (gl_nil)))))))
    (fun Y W y => ra_cons (fun c e => by cases e) (ra_cons (fun c e => by cases e) (ra_cons (fun c e hy hd => by cases e; exact raise_of E (List.mem_of_getElem? (i := 31) rfl) (List.mem_of_getElem? (i := 1) rfl) rfl y hy hd) (ra_cons (fun c e => by cases e) (ra_cons (fun c e => by cases e) (ra_cons (fun c e => by cases e) (ra_nil)))))))
theorem ok_serial (E : En pc fa fn w K mg base) : DOk PySem.Challenge.pw_bankstack_k03_numbers_that_check w K mg base (pc.G K) "serial" ["land", "bank", "count"] 3 F_serial 15 :=
  def_dok E (dd := dd_serial) (List.mem_of_getElem? (i := 7) rfl) "serial" ["land", "bank", "count"] S_serial.N S_serial false false false 60 3 gl_serial rfl rfl rfl (List.mem_of_getElem? (i := 10) rfl) ⟨rfl, rfl, rfl, by decide +kernel, rfl, by decide +kernel, by decide +kernel⟩ rfl rfl rfl rfl rfl
    (fun _ _ _ _ _ _ us hl => match us, hl with | [_, _, _], _ => rfl) ((fun z => by rcases z with z | z <;> cases z))
    (fun Y W CL lq y => gl_cons (gb_str E (List.mem_of_getElem? (i := 22) rfl) y CL lq)
    (gl_cons ((ok_with_check E).glob y (by decide) CL lq)
    (gl_cons (gb_kd E (List.mem_of_getElem? (i := 2) rfl) rfl y CL lq)
    (gl_cons (gb_exc)
    (gl_cons (gb_len E (List.mem_of_getElem? (i := 19) rfl) y CL lq)
    (gl_nil))))))
    (fun Y W y => ra_cons (fun c e => by cases e) (ra_cons (fun c e => by cases e) (ra_cons (fun c e => by cases e) (ra_cons (fun c e hy hd => by cases e; exact raise_of E (List.mem_of_getElem? (i := 31) rfl) (List.mem_of_getElem? (i := 1) rfl) rfl y hy hd) (ra_cons (fun c e => by cases e) (ra_nil))))))
theorem ok_law_dice (E : En pc fa fn w K mg base) : DOk PySem.Challenge.pw_bankstack_k03_numbers_that_check w K mg base (pc.G K) "_law_dice" ["cell"] 1 F_law_dice 5 :=
  def_dok E (dd := dd_law_dice) (List.mem_of_getElem? (i := 8) rfl) "_law_dice" ["cell"] S_law_dice.N S_law_dice true false false 60 1 gl_law_dice rfl rfl rfl (List.mem_of_getElem? (i := 11) rfl) ⟨rfl, rfl, rfl, by decide +kernel, rfl, by decide +kernel, by decide +kernel⟩ rfl rfl rfl rfl rfl
    (fun _ _ _ _ _ _ us hl => match us, hl with | [_], _ => rfl) ((fun z => by rcases z with z | z <;> cases z))
    (fun Y W CL lq y => gl_cons (gb_int E (List.mem_of_getElem? (i := 21) rfl) y CL lq)
    (gl_cons (gb_abs E (List.mem_of_getElem? (i := 20) rfl) y CL lq)
    (gl_nil)))
    (fun Y W y => ra_cons (fun c e => by cases e) (ra_cons (fun c e => by cases e) (ra_nil)))
theorem ok_law_roll (E : En pc fa fn w K mg base) : DOk PySem.Challenge.pw_bankstack_k03_numbers_that_check w K mg base (pc.G K) "_law_roll" ["dice", "many"] 2 F_law_roll 5 :=
  def_dok E (dd := dd_law_roll) (List.mem_of_getElem? (i := 9) rfl) "_law_roll" ["dice", "many"] S_law_roll.N S_law_roll false false false 60 2 gl_law_roll rfl rfl rfl (List.mem_of_getElem? (i := 12) rfl) ⟨rfl, rfl, rfl, by decide +kernel, rfl, by decide +kernel, by decide +kernel⟩ rfl rfl rfl rfl rfl
    (fun _ _ _ _ _ _ us hl => match us, hl with | [_, _], _ => rfl) ((fun z => by rcases z with z | z <;> cases z))
    (fun Y W CL lq y => gl_cons (gb_int E (List.mem_of_getElem? (i := 21) rfl) y CL lq)
    (gl_nil))
    (fun Y W y => ra_cons (fun c e => by cases e) (ra_nil))
theorem ok_law_rounds (E : En pc fa fn w K mg base) : DOk PySem.Challenge.pw_bankstack_k03_numbers_that_check w K mg base (pc.G K) "_law_rounds" ["script", "most"] 2 F_law_rounds 10 :=
  def_dok E (dd := dd_law_rounds) (List.mem_of_getElem? (i := 10) rfl) "_law_rounds" ["script", "most"] S_law_rounds.N S_law_rounds true false false 60 2 gl_law_rounds rfl rfl rfl (List.mem_of_getElem? (i := 13) rfl) ⟨rfl, rfl, rfl, by decide +kernel, rfl, by decide +kernel, by decide +kernel⟩ rfl rfl rfl rfl rfl
    (fun _ _ _ _ _ _ us hl => match us, hl with | [_, _], _ => rfl) ((fun z => by rcases z with z | z <;> cases z))
    (fun Y W CL lq y => gl_cons ((ok_law_dice E).glob y (by decide) CL lq)
    (gl_nil))
    (fun Y W y => ra_cons (fun c e => by cases e) (ra_nil))
theorem ok_law_rest (E : En pc fa fn w K mg base) : DOk PySem.Challenge.pw_bankstack_k03_numbers_that_check w K mg base (pc.G K) "_law_rest" ["text"] 1 F_law_rest 5 :=
  def_dok E (dd := dd_law_rest) (List.mem_of_getElem? (i := 12) rfl) "_law_rest" ["text"] S_law_rest.N S_law_rest false false false 60 1 gl_law_rest rfl rfl rfl (List.mem_of_getElem? (i := 15) rfl) ⟨rfl, rfl, rfl, by decide +kernel, rfl, by decide +kernel, by decide +kernel⟩ rfl rfl rfl rfl rfl
    (fun _ _ _ _ _ _ us hl => match us, hl with | [_], _ => rfl) ((fun z => by rcases z with z | z <;> cases z))
    (fun Y W CL lq y => gl_cons (gb_int E (List.mem_of_getElem? (i := 21) rfl) y CL lq)
    (gl_cons (gb_str E (List.mem_of_getElem? (i := 22) rfl) y CL lq)
    (gl_nil)))
    (fun Y W y => ra_cons (fun c e => by cases e) (ra_cons (fun c e => by cases e) (ra_nil)))
theorem ok_law_good (E : En pc fa fn w K mg base) : DOk PySem.Challenge.pw_bankstack_k03_numbers_that_check w K mg base (pc.G K) "_law_good" ["number"] 1 F_law_good 10 :=
  def_dok E (dd := dd_law_good) (List.mem_of_getElem? (i := 13) rfl) "_law_good" ["number"] S_law_good.N S_law_good false false false 60 1 gl_law_good rfl rfl rfl (List.mem_of_getElem? (i := 16) rfl) ⟨rfl, rfl, rfl, by decide +kernel, rfl, by decide +kernel, by decide +kernel⟩ rfl rfl rfl rfl rfl
    (fun _ _ _ _ _ _ us hl => match us, hl with | [_], _ => rfl) ((fun z => by rcases z with z | z <;> cases z))
    (fun Y W CL lq y => gl_cons (gb_len E (List.mem_of_getElem? (i := 19) rfl) y CL lq)
    (gl_cons (gb_int E (List.mem_of_getElem? (i := 21) rfl) y CL lq)
    (gl_cons ((ok_law_rest E).glob y (by decide) CL lq)
    (gl_nil))))
    (fun Y W y => ra_cons (fun c e => by cases e) (ra_cons (fun c e => by cases e) (ra_cons (fun c e => by cases e) (ra_nil))))
theorem ok_law_plain (E : En pc fa fn w K mg base) : DOk PySem.Challenge.pw_bankstack_k03_numbers_that_check w K mg base (pc.G K) "_law_plain" [] 0 F_law_plain 20 :=
  def_dok E (dd := dd_law_plain) (List.mem_of_getElem? (i := 14) rfl) "_law_plain" [] S_law_plain.N S_law_plain false true false 60 0 gl_law_plain rfl rfl rfl (List.mem_of_getElem? (i := 17) rfl) ⟨rfl, rfl, rfl, by decide +kernel, rfl, by decide +kernel, by decide +kernel⟩ rfl rfl rfl rfl rfl
    (fun _ _ _ _ _ _ us hl => match us, hl with | [], _ => rfl) (fun _ => (List.mem_of_getElem? (i := 4) rfl))
    (fun Y W CL lq y => gl_cons ((ok_with_check E).glob y (by decide) CL lq)
    (gl_cons (gb_val E (List.mem_of_getElem? (i := 30) rfl) y CL lq)
    (gl_cons ((ok_rest E).glob y (by decide) CL lq)
    (gl_cons ((ok_parted E).glob y (by decide) CL lq)
    (gl_cons ((ok_read E).glob y (by decide) CL lq)
    (gl_cons ((ok_slips_of E).glob y (by decide) CL lq)
    (gl_cons ((ok_missing E).glob y (by decide) CL lq)
    (gl_cons ((ok_serial E).glob y (by decide) CL lq)
    (gl_cons (gb_dict E (List.mem_of_getElem? (i := 23) rfl) y CL lq)
    (gl_cons (gb_kd E (List.mem_of_getElem? (i := 2) rfl) rfl y CL lq)
    (gl_cons ((ok_is_good E).glob y (by decide) CL lq)
    (gl_cons (gb_told E (dd := dd_law_told) (List.mem_of_getElem? (i := 11) rfl) (Ng := ["what"]) (a := "what") (e := "NumberError") rfl rfl rfl (List.mem_of_getElem? (i := 14) rfl) (List.mem_of_getElem? (i := 1) rfl) rfl ⟨rfl, rfl, rfl, by decide +kernel, rfl, by decide +kernel, by decide +kernel⟩ rfl (.inl (by rfl)) (by decide) (by decide) (by rfl) (by decide) rfl (fun _ _ _ _ _ _ us hl => match us, hl with | [_], _ => rfl) (caught_ok) y CL lq)
    (gl_nil)))))))))))))
    (fun Y W y => ra_cons (fun c e => by cases e) (ra_cons (fun c e => by cases e) (ra_cons (fun c e => by cases e) (ra_cons (fun c e => by cases e) (ra_cons (fun c e => by cases e) (ra_cons (fun c e => by cases e) (ra_cons (fun c e => by cases e) (ra_cons (fun c e => by cases e) (ra_cons (fun c e => by cases e) (ra_cons (fun c e => by cases e) (ra_cons (fun c e => by cases e) (ra_cons (fun c e => by cases e) (ra_nil)))))))))))))
theorem ok_law (E : En pc fa fn w K mg base) : DOk PySem.Challenge.pw_bankstack_k03_numbers_that_check w K mg base (pc.G K) "law" ["script"] 1 F_law 25 :=
  def_dok E (dd := dd_law) (List.mem_of_getElem? (i := 15) rfl) "law" ["script"] S_law.N S_law false true false 60 1 gl_law rfl rfl rfl (List.mem_of_getElem? (i := 18) rfl) ⟨rfl, rfl, rfl, by decide +kernel, rfl, by decide +kernel, by decide +kernel⟩ rfl rfl rfl rfl rfl
    (fun _ _ _ _ _ _ us hl => match us, hl with | [_], _ => rfl) (fun _ => (List.mem_of_getElem? (i := 5) rfl))
    (fun Y W CL lq y => gl_cons ((ok_law_rounds E).glob y (by decide) CL lq)
    (gl_cons ((ok_law_plain E).glob y (by decide) CL lq)
    (gl_cons ((ok_with_check E).glob y (by decide) CL lq)
    (gl_cons (gb_range E (List.mem_of_getElem? (i := 28) rfl) y CL lq)
    (gl_cons (gb_sorted E (List.mem_of_getElem? (i := 25) rfl) y CL lq)
    (gl_cons (gb_told E (dd := dd_law_told) (List.mem_of_getElem? (i := 11) rfl) (Ng := ["what"]) (a := "what") (e := "NumberError") rfl rfl rfl (List.mem_of_getElem? (i := 14) rfl) (List.mem_of_getElem? (i := 1) rfl) rfl ⟨rfl, rfl, rfl, by decide +kernel, rfl, by decide +kernel, by decide +kernel⟩ rfl (.inl (by rfl)) (by decide) (by decide) (by rfl) (by decide) rfl (fun _ _ _ _ _ _ us hl => match us, hl with | [_], _ => rfl) (caught_ok) y CL lq)
    (gl_cons ((ok_law_roll E).glob y (by decide) CL lq)
    (gl_cons ((ok_is_good E).glob y (by decide) CL lq)
    (gl_cons ((ok_rest E).glob y (by decide) CL lq)
    (gl_cons ((ok_law_rest E).glob y (by decide) CL lq)
    (gl_cons (gb_len E (List.mem_of_getElem? (i := 19) rfl) y CL lq)
    (gl_cons (gb_dict E (List.mem_of_getElem? (i := 23) rfl) y CL lq)
    (gl_cons (gb_str E (List.mem_of_getElem? (i := 22) rfl) y CL lq)
    (gl_cons ((ok_law_good E).glob y (by decide) CL lq)
    (gl_cons ((ok_parted E).glob y (by decide) CL lq)
    (gl_cons ((ok_read E).glob y (by decide) CL lq)
    (gl_cons (gb_list E (List.mem_of_getElem? (i := 24) rfl) y CL lq)
    (gl_cons ((ok_missing E).glob y (by decide) CL lq)
    (gl_cons (gb_kd E (List.mem_of_getElem? (i := 2) rfl) rfl y CL lq)
    (gl_cons ((ok_serial E).glob y (by decide) CL lq)
    (gl_cons ((ok_slips_of E).glob y (by decide) CL lq)
    (gl_cons (gb_enumerate E (List.mem_of_getElem? (i := 29) rfl) y CL lq)
    (gl_nil)))))))))))))))))))))))
    (fun Y W y => ra_cons (fun c e => by cases e) (ra_cons (fun c e => by cases e) (ra_cons (fun c e => by cases e) (ra_cons (fun c e => by cases e) (ra_cons (fun c e => by cases e) (ra_cons (fun c e => by cases e) (ra_cons (fun c e => by cases e) (ra_cons (fun c e => by cases e) (ra_cons (fun c e => by cases e) (ra_cons (fun c e => by cases e) (ra_cons (fun c e => by cases e) (ra_cons (fun c e => by cases e) (ra_cons (fun c e => by cases e) (ra_cons (fun c e => by cases e) (ra_cons (fun c e => by cases e) (ra_cons (fun c e => by cases e) (ra_cons (fun c e => by cases e) (ra_cons (fun c e => by cases e) (ra_cons (fun c e => by cases e) (ra_cons (fun c e => by cases e) (ra_cons (fun c e => by cases e) (ra_cons (fun c e => by cases e) (ra_nil)))))))))))))))))))))))
end
theorem law_dd : dd_law ∈ fn := (List.mem_of_getElem? (i := 15) rfl)
theorem law_fa : He.Fa.glo "law" ∈ fa := (List.mem_of_getElem? (i := 18) rfl)
abbrev rowR : PySem.W.OpenRow := PySem.W.OpenLaw.row PySem.Challenge.rw_bankstack_k03_numbers_that_check
abbrev hk : PySem.W.Hook := He.hookX 5 fa fn pc.ts (pc.tf.map (·.1)) pc.ex
def ob (s : PySem.W.SharedT) : He.AlX := He.obsX 5 fa fn pc.ts (pc.tf.map (·.1)) pc.ex (HandSHeadRun.getT s)
theorem ob_eq (s : PySem.W.SharedT) : ob s = hk.obs s.abs := He.obsX_eq (HandSHeadRun.getT_eq s)
def loose : List Str := ["BankError", "NumberError", "LANDS", "MOST_FIGURES", "rest", "with_check", "is_good", "parted", "read", "slips_of", "missing", "serial", "_law_dice", "_law_roll", "_law_rounds", "_law_told", "_law_rest", "_law_good", "_law_plain"]
def LAWI : Nat := 22
theorem kds_ok : ∀ q ∈ pc.kds, ((kdV q.2).map (·.1)).Nodup ∧ q.2.length ≤ sizeLine := by decide +kernel
def KL : Nat := 25
end K03

namespace Bk
open L2 PyProof.Rows PySem.Spec PySem

/-! ## Names for what statements mean -/
def sNx : SS := fun ρ st => .nx ρ st
def sBk : SS := fun ρ st => .bk ρ st
def sCt : SS := fun ρ st => .ct ρ st
def sRet (f : SE) : SS := fun ρ st => sE2 (f ρ st) fun d st1 => .rt d st1
def sDo (f : SE) : SS := fun ρ st => sE2 (f ρ st) fun _ st1 => .nx ρ st1
def sRaise (c : Nat) : SS := fun _ st => .exn c st
def sSeq (f g : SS) : SS := fun ρ st => (f ρ st).then fun ρ1 st1 => g ρ1 st1
def sLstE (m : Bool) (f : SA) : SE := fun ρ st => (f ρ st).bind fun ds st1 => mkL m ds st1
def sTupE (f : SA) : SE := fun ρ st => (f ρ st).bind fun ds st1 => mkT ds st1
def tYesE : ST := fun _ st => .ok true st
def augAdd : D → D → Store → R D := (augF .Add).getD fun _ _ _ => .stuck
def augSub : D → D → Store → R D := (augF .Sub).getD fun _ _ _ => .stuck
def augMod : D → D → Store → R D := (augF .Mod).getD fun _ _ _ => .stuck
def lamAt (k : Nat) (l : List (Pos × Scope × Expr)) : Scope × Expr := (l.getD k (⟨0, 0, 0, 0⟩, ⟨.function, [], false, false, []⟩, .Constant .none 0 ⟨0, 0, 0, 0⟩)).2
end Bk

namespace Bk
open L2 PyProof.Rows PySem.Spec PySem

/-! ## Reckoning with meanings: one step after another -/
/-- not by rfl: the kernel is to check each step for itself -/
theorem nr {α : Sort _} {a b : α} (h : a = b) : a = b := h
theorem R.bind_cg {α β : Type} {r r' : R α} {f : α → Store → R β} (h : r = r') : r.bind f = r'.bind f := by rw [h]
@[simp] theorem R.bind_ok {α β : Type} {a : α} {st : Store} {f : α → Store → R β} : (R.ok a st).bind f = f a st := nr rfl
@[simp] theorem R.bind_exn {α β : Type} {c : Nat} {st : Store} {f : α → Store → R β} : (R.exn c st : R α).bind f = .exn c st := nr rfl
theorem sE2_cg {r r' : R D} {k : D → Store → RS} (h : r = r') : sE2 r k = sE2 r' k := by rw [h]
@[simp] theorem sE2_ok {d : D} {st : Store} {k : D → Store → RS} : sE2 (.ok d st) k = k d st := nr rfl
@[simp] theorem sE2_exn {c : Nat} {st : Store} {k : D → Store → RS} : sE2 (.exn c st) k = .exn c st := nr rfl
theorem then_cg {r r' : RS} {k : Lc → Store → RS} (h : r = r') : r.then k = r'.then k := by rw [h]
@[simp] theorem then_nx {ρ : Lc} {st : Store} {k : Lc → Store → RS} : (RS.nx ρ st).then k = k ρ st := nr rfl
@[simp] theorem then_rt {d : D} {st : Store} {k : Lc → Store → RS} : (RS.rt d st).then k = .rt d st := nr rfl
@[simp] theorem then_exn {c : Nat} {st : Store} {k : Lc → Store → RS} : (RS.exn c st).then k = .exn c st := nr rfl
@[simp] theorem then_bk {ρ : Lc} {st : Store} {k : Lc → Store → RS} : (RS.bk ρ st).then k = .bk ρ st := nr rfl
@[simp] theorem then_ct {ρ : Lc} {st : Store} {k : Lc → Store → RS} : (RS.ct ρ st).then k = .ct ρ st := nr rfl
section
variable {ρ : Lc} {st : Store} {f g h : SE} {t t1 t2 : ST} {ga : SA} {s1 s2 : SS}
@[simp] theorem sVal_e {d : D} : sVal d ρ st = .ok d st := nr rfl
theorem sVar_get {i : Nat} {d : D} (e : ρ[i]? = some (some d)) : sVar i ρ st = .ok d st := by
  unfold sVar
  rw [e]
@[simp] theorem sVar_0 {d : D} : sVar 0 (some d :: ρ) st = .ok d st := nr rfl
@[simp] theorem sVar_s {i : Nat} {o : Option D} : sVar (i + 1) (o :: ρ) st = sVar i ρ st := nr rfl
@[simp] theorem sBin_e {op : D → D → Store → R D} : sBin op f g ρ st = (f ρ st).bind fun a st1 => (g ρ st1).bind fun b st2 => op a b st2 := nr rfl
@[simp] theorem sUn_e {op : D → Store → R D} : sUn op f ρ st = (f ρ st).bind fun a st1 => op a st1 := nr rfl
def rIf (r : R Bool) (a b : Store → R D) : R D := r.bind fun c st1 => if c then a st1 else b st1
theorem rIf_cg {r r' : R Bool} {a b : Store → R D} (h : r = r') : rIf r a b = rIf r' a b := by rw [h]
@[simp] theorem rIf_t {a b : Store → R D} : rIf (.ok true st) a b = a st := nr rfl
@[simp] theorem rIf_f {a b : Store → R D} : rIf (.ok false st) a b = b st := nr rfl
@[simp] theorem rIf_exn {a b : Store → R D} {c : Nat} : rIf (.exn c st) a b = .exn c st := nr rfl
@[simp] theorem sIf_e : sIf t f g ρ st = rIf (t ρ st) (fun st1 => f ρ st1) (fun st1 => g ρ st1) := nr rfl
@[simp] theorem sCons_e : sCons f ga ρ st = (f ρ st).bind fun d st1 => (ga ρ st1).bind fun ds st2 => .ok (d :: ds) st2 := nr rfl
@[simp] theorem sNil_e : sNil ρ st = .ok [] st := nr rfl
@[simp] theorem sCall_e {F : Fn} : sCall F ga ρ st = (ga ρ st).bind fun ds st1 => F ds st1 := nr rfl
@[simp] theorem sLstE_e {m : Bool} : sLstE m ga ρ st = (ga ρ st).bind fun ds st1 => mkL m ds st1 := nr rfl
@[simp] theorem sTupE_e : sTupE ga ρ st = (ga ρ st).bind fun ds st1 => mkT ds st1 := nr rfl
@[simp] theorem tYesE_e : tYesE ρ st = .ok true st := nr rfl
def rTr (r : R D) : R Bool := r.bind fun d st1 => match truthy st1 d with
  | some b => .ok b st1
  | none => .stuck
@[simp] theorem rTr_bl {b : Bool} : rTr (.ok (.bl b) st) = .ok b st := nr rfl
@[simp] theorem rTr_exn {c : Nat} : rTr (.exn c st) = .exn c st := nr rfl
@[simp] theorem tVal_e : tVal f ρ st = rTr (f ρ st) := nr rfl
@[simp] theorem tNot_e : tNot' t ρ st = (t ρ st).bind fun b st1 => .ok (!b) st1 := nr rfl
def rAnd (r : R Bool) (a : Store → R Bool) : R Bool := r.bind fun b st1 => if b then a st1 else .ok false st1
def rOr (r : R Bool) (a : Store → R Bool) : R Bool := r.bind fun b st1 => if b then .ok true st1 else a st1
theorem rAnd_cg {r r' : R Bool} {a : Store → R Bool} (h : r = r') : rAnd r a = rAnd r' a := by rw [h]
theorem rOr_cg {r r' : R Bool} {a : Store → R Bool} (h : r = r') : rOr r a = rOr r' a := by rw [h]
@[simp] theorem rAnd_t {a : Store → R Bool} : rAnd (.ok true st) a = a st := nr rfl
@[simp] theorem rAnd_f {a : Store → R Bool} : rAnd (.ok false st) a = .ok false st := nr rfl
@[simp] theorem rAnd_exn {a : Store → R Bool} {c : Nat} : rAnd (.exn c st) a = .exn c st := nr rfl
@[simp] theorem rOr_t {a : Store → R Bool} : rOr (.ok true st) a = .ok true st := nr rfl
@[simp] theorem rOr_f {a : Store → R Bool} : rOr (.ok false st) a = a st := nr rfl
@[simp] theorem rOr_exn {a : Store → R Bool} {c : Nat} : rOr (.exn c st) a = .exn c st := nr rfl
@[simp] theorem tAnd_e : tAnd' t1 t2 ρ st = rAnd (t1 ρ st) (fun st1 => t2 ρ st1) := nr rfl
@[simp] theorem tOr_e : tOr' t1 t2 ρ st = rOr (t1 ρ st) (fun st1 => t2 ρ st1) := nr rfl
def rAndT (r : R D) (a : Store → R D) : R D := r.bind fun d st1 => match truthy st1 d with
  | some true => a st1
  | some false => .ok d st1
  | none => .stuck
theorem rAndT_cg {r r' : R D} {a : Store → R D} (h : r = r') : rAndT r a = rAndT r' a := by rw [h]
@[simp] theorem rAndT_t {a : Store → R D} : rAndT (.ok (.bl true) st) a = a st := nr rfl
@[simp] theorem rAndT_f {a : Store → R D} : rAndT (.ok (.bl false) st) a = .ok (.bl false) st := nr rfl
@[simp] theorem rAndT_exn {a : Store → R D} {c : Nat} : rAndT (.exn c st) a = .exn c st := nr rfl
@[simp] theorem sAndT_e : sAndT f g ρ st = rAndT (f ρ st) (fun st1 => g ρ st1) := nr rfl
def rNotT (r : R D) : R D := r.bind fun d st1 => match truthy st1 d with
  | some b => .ok (.bl (!b)) st1
  | none => .stuck
@[simp] theorem rNotT_bl {b : Bool} : rNotT (.ok (.bl b) st) = .ok (.bl (!b)) st := nr rfl
@[simp] theorem sNotT_e : sNotT f ρ st = rNotT (f ρ st) := nr rfl
def rCh (r : R D) (a : Store → R D) : R D := r.bind fun r st3 => match r with
  | .bl true => a st3
  | .bl false => .ok (.bl false) st3
  | _ => .stuck
theorem rCh_cg {r r' : R D} {a : Store → R D} (h : r = r') : rCh r a = rCh r' a := by rw [h]
@[simp] theorem rCh_t {a : Store → R D} : rCh (.ok (.bl true) st) a = a st := nr rfl
@[simp] theorem rCh_f {a : Store → R D} : rCh (.ok (.bl false) st) a = .ok (.bl false) st := nr rfl
@[simp] theorem sChain_e {o1 o2 : D → D → Store → R D} : sChain o1 o2 f g h ρ st = (f ρ st).bind fun a st1 => (g ρ st1).bind fun b st2 => rCh (o1 a b st2) fun st3 => (h ρ st3).bind fun c st4 => o2 b c st4 := nr rfl
@[simp] theorem pNone_e : pNone ρ st = .ok none st := nr rfl
def rPt (r : R D) : R (Option Int) := r.bind fun d st1 => match d with
  | .int i => .ok (some i) st1
  | _ => .stuck
@[simp] theorem rPt_int {i : Int} : rPt (.ok (.int i) st) = .ok (some i) st := nr rfl
@[simp] theorem pSome_e : pSome f ρ st = rPt (f ρ st) := nr rfl
@[simp] theorem sSlice_e {m : Bool} {lo hi : SP} : sSlice m f lo hi ρ st = (f ρ st).bind fun a st1 => (lo ρ st1).bind fun l st2 => (hi ρ st2).bind fun h st3 => dSlice m a l h st3 := nr rfl
@[simp] theorem iVal_e : iVal f ρ st = (f ρ st).bind fun d st1 => dIter d st1 := nr rfl
/-! statements -/
@[simp] theorem sNx_e : sNx ρ st = .nx ρ st := nr rfl
@[simp] theorem sRet_e : sRet f ρ st = sE2 (f ρ st) fun d st1 => .rt d st1 := nr rfl
@[simp] theorem sRaise_e {c : Nat} : sRaise c ρ st = .exn c st := nr rfl
@[simp] theorem sSeq_e : sSeq s1 s2 ρ st = (s1 ρ st).then fun ρ1 st1 => s2 ρ1 st1 := nr rfl
theorem seq_nx {ρ1 : Lc} {st1 : Store} (e : s1 ρ st = .nx ρ1 st1) : sSeq s1 s2 ρ st = s2 ρ1 st1 := by rw [sSeq_e, e, then_nx]
def gAsg (g : SG) (d : D) (ρ : Lc) (st : Store) : RS := match g d ρ with
  | some ρ1 => .nx ρ1 st
  | none => .stuck
@[simp] theorem sAsg_e {g : SG} : sAsg f g ρ st = sE2 (f ρ st) fun d st1 => gAsg g d ρ st1 := nr rfl
theorem gAsg_name {i : Nat} {d : D} (h : i < ρ.length) : gAsg (gName' i) d ρ st = .nx (ρ.set i (some d)) st := by
  unfold gAsg gName'
  rw [if_pos h]
@[simp] theorem gAsg_0 {d : D} {o : Option D} : gAsg (gName' 0) d (o :: ρ) st = .nx (some d :: ρ) st := nr rfl
def rSt (r : R Bool) (a b : Store → RS) : RS := match r with
  | .ok true st1 => a st1
  | .ok false st1 => b st1
  | .exn c st1 => .exn c st1
  | .stuck => .stuck
theorem rSt_cg {r r' : R Bool} {a b : Store → RS} (h : r = r') : rSt r a b = rSt r' a b := by rw [h]
@[simp] theorem rSt_t {a b : Store → RS} : rSt (.ok true st) a b = a st := nr rfl
@[simp] theorem rSt_f {a b : Store → RS} : rSt (.ok false st) a b = b st := nr rfl
@[simp] theorem rSt_exn {a b : Store → RS} {c : Nat} : rSt (.exn c st) a b = .exn c st := nr rfl
@[simp] theorem sIfS_e : sIfS t s1 s2 ρ st = rSt (t ρ st) (fun st1 => s1 ρ st1) (fun st1 => s2 ρ st1) := by
  unfold sIfS rSt
  split <;> simp_all
/-! a loop over a list -/
def forL (g : SG) (body : SS) : List D → Lc → Store → RS
  | [], ρ, st => .nx ρ st
  | d :: ds, ρ, st => match g d ρ with
    | none => .stuck
    | some ρ1 => (match body ρ1 st with
      | .nx ρ2 st2 => forL g body ds ρ2 st2
      | .ct ρ2 st2 => forL g body ds ρ2 st2
      | .bk ρ2 st2 => .nx ρ2 st2
      | r => r)
theorem forL_nil {g : SG} {body : SS} : forL g body [] ρ st = .nx ρ st := nr rfl
theorem forL_cons {g : SG} {body : SS} {d : D} {ds : List D} {ρ1 : Lc} (e : g d ρ = some ρ1) : forL g body (d :: ds) ρ st = (match body ρ1 st with
      | .nx ρ2 st2 => forL g body ds ρ2 st2
      | .ct ρ2 st2 => forL g body ds ρ2 st2
      | .bk ρ2 st2 => .nx ρ2 st2
      | r => r) := by
  rw [forL, e]
theorem forC_drop (g : SG) (body : SS) (ds : List D) : ∀ (n i : Nat) (ρ : Lc) (st : Store), ds.length + 1 = i + n → 0 < n → forC g body (cList ds) n i ρ st = forL g body (ds.drop i) ρ st
  | 0, _, _, _, _, h => absurd h (Nat.lt_irrefl _)
  | n + 1, i, ρ, st, e, _ => by
    unfold forC
    by_cases hi : i < ds.length
    · rw [List.drop_eq_getElem_cons hi]
      have e1 : cList ds i st = some (some ds[i]) := by unfold cList; rw [List.getElem?_eq_getElem hi]
      simp only [e1]
      unfold forL
      cases g ds[i] ρ with
      | none => rfl
      | some ρ1 =>
        simp only
        have ih := fun ρ2 st2 => forC_drop g body ds n (i + 1) ρ2 st2 (by omega) (by omega)
        cases body ρ1 st <;> simp only [ih]
    · have e1 : cList ds i st = some none := by unfold cList; rw [List.getElem?_eq_none (by omega)]
      simp only [e1]
      rw [List.drop_eq_nil_of_le (by omega)]
      unfold forL
      rfl
@[simp] theorem unlkS_none {r : RS} : unlkS none r = r := by cases r <;> rfl
theorem for_wkL {it : SI} {g : SG} {body : SS} {ds : List D} {st1 : Store} (h : it ρ st = .ok (wkL ds) st1) : sForS it g body ρ st = forL g body ds ρ st1 := by
  unfold sForS
  rw [h]
  show unlkS none (forC g body (cList ds) (ds.length + 1) 0 ρ st1) = _
  rw [unlkS_none, forC_drop g body ds _ 0 ρ st1 (by omega) (by omega), List.drop_zero]
/-- all turns go on -/
theorem forL_inv {g : SG} {body : SS} (I : List D → Lc → Store → Prop) (step : ∀ d r ρ st, I (d :: r) ρ st → ∃ ρ1 ρ2 st2, g d ρ = some ρ1 ∧ body ρ1 st = .nx ρ2 st2 ∧ I r ρ2 st2) :
    ∀ (ds : List D) (ρ : Lc) (st : Store), I ds ρ st → ∃ ρ2 st2, forL g body ds ρ st = .nx ρ2 st2 ∧ I [] ρ2 st2
  | [], ρ, st, h => ⟨ρ, st, rfl, h⟩
  | d :: r, ρ, st, h => by
    obtain ⟨ρ1, ρ2, st2, e1, e2, h2⟩ := step d r ρ st h
    obtain ⟨ρ3, st3, e3, h3⟩ := forL_inv I step r ρ2 st2 h2
    refine ⟨ρ3, st3, ?_, h3⟩
    unfold forL
    simp only [e1, e2, e3]
/-! comprehensions over a list -/
def compL (g : SG) (test : ST) (elt : SE) (ρ0 : Lc) : List D → Store → R (List D)
  | [], st => .ok [] st
  | d :: ds, st => match g d ρ0 with
    | none => .stuck
    | some ρ1 => (test ρ1 st).bind fun b st2 => if b then (elt ρ1 st2).bind fun y st3 => (compL g test elt ρ0 ds st3).bind fun ys st4 => .ok (y :: ys) st4 else compL g test elt ρ0 ds st2
theorem compC_drop (g : SG) (test : ST) (elt : SE) (ρ0 : Lc) (ds : List D) : ∀ (n i : Nat) (st : Store), ds.length + 1 = i + n → 0 < n → compC g test elt ρ0 (cList ds) n i st = compL g test elt ρ0 (ds.drop i) st
  | 0, _, _, _, h => absurd h (Nat.lt_irrefl _)
  | n + 1, i, st, e, _ => by
    unfold compC
    by_cases hi : i < ds.length
    · rw [List.drop_eq_getElem_cons hi]
      have e1 : cList ds i st = some (some ds[i]) := by unfold cList; rw [List.getElem?_eq_getElem hi]
      simp only [e1]
      unfold compL
      have ih := fun st2 => compC_drop g test elt ρ0 ds n (i + 1) st2 (by omega) (by omega)
      simp only [ih] <;> rfl
    · have e1 : cList ds i st = some none := by unfold cList; rw [List.getElem?_eq_none (by omega)]
      simp only [e1]
      rw [List.drop_eq_nil_of_le (by omega)]
      unfold compL
      rfl
@[simp] theorem unlkR_none {α : Type} {r : R α} : unlkR none r = r := by cases r <;> rfl
@[simp] theorem noExn_ok {α : Type} {a : α} : noExn (.ok a st) = .ok a st := nr rfl
theorem comp_wkL {m : Bool} {own : List Nat} {it : SI} {gt : SG} {test : ST} {elt : SE} {ds ys : List D} {st1 st2 : Store} (h : it ρ st = .ok (wkL ds) st1) (hc : compL gt test elt (wipeD ρ own) ds st1 = .ok ys st2) :
    sComp m own it gt test elt ρ st = mkB m ys st2 := by
  unfold sComp
  rw [h, R.bind_ok]
  show unlkR none (noExn ((compC gt test elt (wipeD ρ own) (cList ds) (ds.length + 1) 0 st1).bind _)) = _
  rw [compC_drop gt test elt _ ds _ 0 st1 (by omega) (by omega), List.drop_zero, hc, R.bind_ok, unlkR_none]
  unfold mkB mkF
  cases m <;> split <;> rfl
theorem mkB_f {ys : List D} (h : ys.length ≤ big) : mkB false ys st = .ok (.lst ys) st := by
  unfold mkB mkF
  rw [if_pos h]
  rfl
/-- a comprehension that changes nothing -/
theorem compL_map {α : Type} {gt : SG} {test : ST} {elt : SE} {ρ0 : Lc} (G : α → D) (p : α → Bool) (F : α → D) : ∀ (ds : List α), (∀ d ∈ ds, ∃ ρ1, gt (G d) ρ0 = some ρ1 ∧ test ρ1 st = .ok (p d) st ∧ (p d = true → elt ρ1 st = .ok (F d) st)) →
    compL gt test elt ρ0 (ds.map G) st = .ok ((ds.filter p).map F) st
  | [], _ => rfl
  | d :: ds, h => by
    obtain ⟨ρ1, e1, e2, e3⟩ := h d (List.mem_cons_self ..)
    have ih := compL_map G p F ds fun x hx => h x (List.mem_cons_of_mem _ hx)
    rw [List.map_cons]
    unfold compL
    simp only [e1, e2, R.bind_ok]
    cases hp : p d with
    | true => simp only [if_true, e3 hp, R.bind_ok, ih, List.filter_cons, hp, List.map_cons]
    | false => simp only [Bool.false_eq_true, if_false, ih, List.filter_cons, hp]
theorem compL_all {α : Type} {gt : SG} {elt : SE} {ρ0 : Lc} (G : α → D) (F : α → D) (ds : List α) (h : ∀ d ∈ ds, ∃ ρ1, gt (G d) ρ0 = some ρ1 ∧ elt ρ1 st = .ok (F d) st) :
    compL gt tYesE elt ρ0 (ds.map G) st = .ok (ds.map F) st := by
  rw [compL_map G (fun _ => true) F ds fun d hd => ?_, List.filter_eq_self.mpr fun _ _ => rfl]
  obtain ⟨ρ1, h1, h2⟩ := h d hd
  exact ⟨ρ1, h1, rfl, fun _ => h2⟩
/-- one that changes the store, without a test -/
theorem compL_inv {gt : SG} {elt : SE} {ρ0 : Lc} (I : Store → Prop) (P : D → Prop) : ∀ (ds : List D) (st : Store), I st → (∀ d ∈ ds, ∀ st, I st → ∃ ρ1 y st1, gt d ρ0 = some ρ1 ∧ elt ρ1 st = .ok y st1 ∧ I st1 ∧ P y) →
    ∃ ys st1, compL gt tYesE elt ρ0 ds st = .ok ys st1 ∧ I st1 ∧ ys.length = ds.length ∧ ∀ y ∈ ys, P y
  | [], st, hi, _ => ⟨[], st, rfl, hi, rfl, fun _ h => nomatch h⟩
  | d :: ds, st, hi, h => by
    obtain ⟨ρ1, y, st1, e1, e2, h1, hp⟩ := h d (List.mem_cons_self ..) st hi
    obtain ⟨ys, st2, e3, h2, hl, hq⟩ := compL_inv I P ds st1 h1 fun x hx => h x (List.mem_cons_of_mem _ hx)
    refine ⟨y :: ys, st2, ?_, h2, by simp [hl], fun z hz => ?_⟩
    · unfold compL
      simp only [e1, tYesE_e, e2, R.bind_ok, if_true, e3]
    · rcases List.mem_cons.mp hz with rfl | hz
      · exact hp
      · exact hq z hz
/-! two fors -/
def compL2 (g : SG) (own2 : List Nat) (it2 : SI) (g2 : SG) (test : ST) (elt : SE) (ρ0 : Lc) : List D → Store → R (List D)
  | [], st => .ok [] st
  | d :: ds, st => match g d ρ0 with
    | none => .stuck
    | some ρ1 => (it2 ρ1 st).bind fun w st2 => match w.lk with
        | some _ => .stuck
        | none => (compC g2 test elt (wipeD ρ1 own2) w.cur w.n 0 st2).bind fun ys st3 => (compL2 g own2 it2 g2 test elt ρ0 ds st3).bind fun zs st4 => .ok (ys ++ zs) st4
theorem compC2_drop (g : SG) (own2 : List Nat) (it2 : SI) (g2 : SG) (test : ST) (elt : SE) (ρ0 : Lc) (ds : List D) : ∀ (n i : Nat) (st : Store), ds.length + 1 = i + n → 0 < n → compC2 g own2 it2 g2 test elt ρ0 (cList ds) n i st = compL2 g own2 it2 g2 test elt ρ0 (ds.drop i) st
  | 0, _, _, _, h => absurd h (Nat.lt_irrefl _)
  | n + 1, i, st, e, _ => by
    unfold compC2
    by_cases hi : i < ds.length
    · rw [List.drop_eq_getElem_cons hi]
      have e1 : cList ds i st = some (some ds[i]) := by unfold cList; rw [List.getElem?_eq_getElem hi]
      simp only [e1]
      unfold compL2
      have ih := fun st2 => compC2_drop g own2 it2 g2 test elt ρ0 ds n (i + 1) st2 (by omega) (by omega)
      simp only [ih] <;> rfl
    · have e1 : cList ds i st = some none := by unfold cList; rw [List.getElem?_eq_none (by omega)]
      simp only [e1]
      rw [List.drop_eq_nil_of_le (by omega)]
      unfold compL2
      rfl
theorem comp2_wkL {m : Bool} {own own2 : List Nat} {it it2 : SI} {gt g2 : SG} {test : ST} {elt : SE} {ds ys : List D} {st1 st2 : Store} (h : it ρ st = .ok (wkL ds) st1) (hc : compL2 gt own2 it2 g2 test elt (wipeD ρ own) ds st1 = .ok ys st2) :
    sComp2 m own own2 it gt it2 g2 test elt ρ st = mkB m ys st2 := by
  unfold sComp2
  rw [h, R.bind_ok]
  show unlkR none (noExn ((compC2 gt own2 it2 g2 test elt (wipeD ρ own) (cList ds) (ds.length + 1) 0 st1).bind _)) = _
  rw [compC2_drop gt own2 it2 g2 test elt _ ds _ 0 st1 (by omega) (by omega), List.drop_zero, hc, R.bind_ok, unlkR_none]
  unfold mkB mkF
  cases m <;> split <;> rfl
theorem compL2_map {α β : Type} {gt g2 : SG} {own2 : List Nat} {it2 : SI} {elt : SE} {ρ0 : Lc} (G : α → D) (B : α → List β) (G2 : β → D) (F : α → β → D) : ∀ (ds : List α), (∀ d ∈ ds, ∃ ρ1, gt (G d) ρ0 = some ρ1 ∧ it2 ρ1 st = .ok (wkL ((B d).map G2)) st ∧ ∀ e ∈ B d, ∃ ρ2, g2 (G2 e) (wipeD ρ1 own2) = some ρ2 ∧ elt ρ2 st = .ok (F d e) st) →
    compL2 gt own2 it2 g2 tYesE elt ρ0 (ds.map G) st = .ok (ds.flatMap fun d => (B d).map (F d)) st
  | [], _ => rfl
  | d :: ds, h => by
    obtain ⟨ρ1, e1, e2, e3⟩ := h d (List.mem_cons_self ..)
    have ih := compL2_map G B G2 F ds fun x hx => h x (List.mem_cons_of_mem _ hx)
    rw [List.map_cons]
    unfold compL2
    simp only [e1, e2, R.bind_ok]
    have e4 : compC g2 tYesE elt (wipeD ρ1 own2) (cList ((B d).map G2)) (((B d).map G2).length + 1) 0 st = .ok ((B d).map (F d)) st := by
      rw [compC_drop g2 tYesE elt _ ((B d).map G2) _ 0 st (by omega) (by omega), List.drop_zero]
      exact compL_all G2 (F d) (B d) e3
    show (compC g2 tYesE elt (wipeD ρ1 own2) (cList ((B d).map G2)) (((B d).map G2).length + 1) 0 st).bind _ = _
    rw [e4, R.bind_ok, ih, R.bind_ok, List.flatMap_cons]
/-! any -/
def anyL (stop : Bool) (g : SG) (test : ST) (elt : SE) (ρ0 : Lc) : List D → Store → R Bool
  | [], st => .ok (!stop) st
  | d :: ds, st => match g d ρ0 with
      | none => .stuck
      | some ρ1 => (test ρ1 st).bind fun b st2 => if b then (elt ρ1 st2).bind fun y st3 => (match y with
      | .bl c => if c = stop then .ok stop st3 else anyL stop g test elt ρ0 ds st3
      | _ => .stuck) else anyL stop g test elt ρ0 ds st2
theorem anyC_drop (stop : Bool) (g : SG) (test : ST) (elt : SE) (ρ0 : Lc) (ds : List D) : ∀ (n i : Nat) (st : Store), ds.length + 1 = i + n → 0 < n → anyC stop g test elt ρ0 (cList ds) n i st = anyL stop g test elt ρ0 (ds.drop i) st
  | 0, _, _, _, h => absurd h (Nat.lt_irrefl _)
  | n + 1, i, st, e, _ => by
    unfold anyC
    by_cases hi : i < ds.length
    · rw [List.drop_eq_getElem_cons hi]
      have e1 : cList ds i st = some (some ds[i]) := by unfold cList; rw [List.getElem?_eq_getElem hi]
      simp only [e1]
      unfold anyL
      have ih := fun st2 => anyC_drop stop g test elt ρ0 ds n (i + 1) st2 (by omega) (by omega)
      simp only [ih] <;> rfl
    · have e1 : cList ds i st = some none := by unfold cList; rw [List.getElem?_eq_none (by omega)]
      simp only [e1]
      rw [List.drop_eq_nil_of_le (by omega)]
      unfold anyL
      rfl
theorem anyL_pure {α : Type} {stop : Bool} {gt : SG} {elt : SE} {ρ0 : Lc} (G : α → D) (p : α → Bool) : ∀ (ds : List α), (∀ d ∈ ds, ∃ ρ1, gt (G d) ρ0 = some ρ1 ∧ elt ρ1 st = .ok (.bl (p d)) st) → anyL stop gt tYesE elt ρ0 (ds.map G) st = .ok (if stop then ds.any p else ds.all p) st
  | [], _ => by cases stop <;> rfl
  | d :: ds, h => by
    obtain ⟨ρ1, e1, e2⟩ := h d (List.mem_cons_self ..)
    have ih := anyL_pure (stop := stop) G p ds fun x hx => h x (List.mem_cons_of_mem _ hx)
    rw [List.map_cons]
    unfold anyL
    simp only [e1, tYesE_e, e2, R.bind_ok, if_true, ih, List.any_cons, List.all_cons]
    cases stop <;> cases p d <;> simp
theorem any_wkL {α : Type} {own : List Nat} {it : SI} {gt : SG} {elt : SE} {G : α → D} {ds : List α} {st1 : Store} (p : α → Bool) (h : it ρ st = .ok (wkL (ds.map G)) st1) (hp : ∀ d ∈ ds, ∃ ρ1, gt (G d) (wipeD ρ own) = some ρ1 ∧ elt ρ1 st1 = .ok (.bl (p d)) st1) :
    sAny true own it gt tYesE elt ρ st = .ok (.bl (ds.any p)) st1 := by
  unfold sAny
  rw [h, R.bind_ok]
  show unlkR none (noExn ((anyC true gt tYesE elt (wipeD ρ own) (cList (ds.map G)) ((ds.map G).length + 1) 0 st1).bind _)) = _
  rw [anyC_drop true gt tYesE elt _ (ds.map G) _ 0 st1 (by omega) (by omega), List.drop_zero, anyL_pure G p ds hp, R.bind_ok, unlkR_none]
  rfl
theorem gen_wkL {own : List Nat} {it : SI} {gt : SG} {test : ST} {elt : SE} {k : List D → Store → R D} {ds ys : List D} {st1 st2 : Store} (h : it ρ st = .ok (wkL ds) st1) (hc : compL gt test elt (wipeD ρ own) ds st1 = .ok ys st2) :
    genL own it gt test elt k ρ st = k ys st2 := by
  unfold genL
  rw [h, R.bind_ok]
  show unlkR none ((noExn (compC gt test elt (wipeD ρ own) (cList ds) (ds.length + 1) 0 st1)).bind _) = _
  rw [compC_drop gt test elt _ ds _ 0 st1 (by omega) (by omega), List.drop_zero, hc, noExn_ok, R.bind_ok, unlkR_none]
theorem gen_lk {own : List Nat} {it : SI} {gt : SG} {test : ST} {elt : SE} {k : List D → Store → R D} {ds ys : List D} {l : Nat} {st1 st2 : Store} (h : it ρ st = .ok ⟨cList ds, ds.length + 1, some l⟩ st1) (hc : compL gt test elt (wipeD ρ own) ds st1 = .ok ys st2) :
    genL own it gt test elt k ρ st = unlkR (some l) (k ys st2) := by
  unfold genL
  rw [h, R.bind_ok]
  show unlkR (some l) ((noExn (compC gt test elt (wipeD ρ own) (cList ds) (ds.length + 1) 0 st1)).bind _) = _
  rw [compC_drop gt test elt _ ds _ 0 st1 (by omega) (by omega), List.drop_zero, hc, noExn_ok, R.bind_ok]
/-! ranges -/
theorem rng1_e {n : Int} {st1 : Store} (e : f ρ st = .ok (.int n) st1) (h1 : -(2 ^ 62) ≤ n) (h2 : n < 2 ^ 62) : iRng1' f ρ st = .ok (wkL (rngL 0 1 n.toNat)) st1 := by
  unfold iRng1'
  rw [e, R.bind_ok]
  have : b62 n = true := by unfold b62; rw [decide_eq_true h1, decide_eq_true h2]; rfl
  simp only [this, if_true]
theorem rng2_e {a b : Int} {st1 st2 : Store} (e : f ρ st = .ok (.int a) st1) (e2 : g ρ st1 = .ok (.int b) st2) (h1 : -(2 ^ 62) ≤ a) (h2 : a < 2 ^ 62) (h3 : -(2 ^ 62) ≤ b) (h4 : b < 2 ^ 62) : iRng2' f g ρ st = .ok (wkL (rngL a 1 (b - a).toNat)) st2 := by
  unfold iRng2'
  rw [e, R.bind_ok, e2, R.bind_ok]
  have q1 : b62 a = true := by unfold b62; rw [decide_eq_true h1, decide_eq_true h2]; rfl
  have q2 : b62 b = true := by unfold b62; rw [decide_eq_true h3, decide_eq_true h4]; rfl
  simp only [q1, q2, Bool.and_self, if_true]
/-! defs -/
theorem leave_same' {esc : Bool} {d : D} : leave esc st.length d st = .ok d st := by
  unfold leave
  split <;> simp
theorem leaveX_same' {esc : Bool} {c : Nat} : leaveX esc st.length c st = .exn c st := by
  unfold leaveX
  split <;> simp
def endF (esc : Bool) (n : Nat) (r : RS) : R D := match r with
  | .rt d st1 => leave esc n d st1
  | .nx _ st1 => leave esc n .non st1
  | .exn c st1 => leaveX esc n c st1
  | _ => .stuck
theorem semF_eq {S : SEnv} {esc genF : Bool} {fuel np : Nat} {sc : Scope} {body : List Stmt} {M : SS} {ds : List D} {r : RS} (hM : denSs S fuel ⟨sc, fun _ => true, 4, genF, false⟩ body = M) (hl : ds.length = np) (hr : M (ds.map some ++ List.replicate (S.N.length - np) none) st = r) :
    semF S esc false genF fuel np sc body ds st = endF esc st.length r := by
  unfold semF
  rw [if_pos ⟨hl, fun z => by cases z⟩, hM, ← hr]
  rfl
@[simp] theorem endF_rt {esc : Bool} {d : D} : endF esc st.length (.rt d st) = .ok d st := leave_same'
@[simp] theorem endF_exn {esc : Bool} {c : Nat} : endF esc st.length (.exn c st) = .exn c st := leaveX_same'
/-! operators on plain things -/
@[simp] theorem dAdd_int {i j : Int} : dAdd (.int i) (.int j) st = .ok (.int (i + j)) st := nr rfl
@[simp] theorem dSub_int {i j : Int} : dSub (.int i) (.int j) st = .ok (.int (i - j)) st := nr rfl
theorem dMul_int {i j : Int} (h : mulFit i j = true) : dMul (.int i) (.int j) st = .ok (.int (i * j)) st := by
  show (if mulFit i j then _ else _) = _
  rw [if_pos h]
theorem dMod_int {i j : Int} (h : j ≠ 0) : dMod (.int i) (.int j) st = .ok (.int (i.fmod j)) st := by
  show (if j ≠ 0 then _ else _) = _
  rw [if_pos h]
theorem dDiv_int {i j : Int} (h : divFit j = true) : dDiv (.int i) (.int j) st = .ok (.int (i.fdiv j)) st := by
  show (if divFit j then _ else _) = _
  rw [if_pos h]
@[simp] theorem cmp_lt {kc : Nat → List (Str × Int)} {i j : Int} : cmpF kc .Lt (.int i) (.int j) st = .ok (.bl (decide (i < j))) st := nr rfl
@[simp] theorem cmp_le {kc : Nat → List (Str × Int)} {i j : Int} : cmpF kc .LtE (.int i) (.int j) st = .ok (.bl (decide (i ≤ j))) st := nr rfl
@[simp] theorem cmp_gt {kc : Nat → List (Str × Int)} {i j : Int} : cmpF kc .Gt (.int i) (.int j) st = .ok (.bl (decide (j < i))) st := nr rfl
@[simp] theorem cmp_ge {kc : Nat → List (Str × Int)} {i j : Int} : cmpF kc .GtE (.int i) (.int j) st = .ok (.bl (decide (j ≤ i))) st := nr rfl
@[simp] theorem cmp_eqI {kc : Nat → List (Str × Int)} {i j : Int} : cmpF kc .Eq (.int i) (.int j) st = .ok (.bl (i == j)) st := nr rfl
@[simp] theorem cmp_neI {kc : Nat → List (Str × Int)} {i j : Int} : cmpF kc .NotEq (.int i) (.int j) st = .ok (.bl (!(i == j))) st := nr rfl
@[simp] theorem cmp_eqS {kc : Nat → List (Str × Int)} {x y : Str} : cmpF kc .Eq (.str x) (.str y) st = .ok (.bl (x == y)) st := nr rfl
@[simp] theorem cmp_neS {kc : Nat → List (Str × Int)} {x y : Str} : cmpF kc .NotEq (.str x) (.str y) st = .ok (.bl (!(x == y))) st := nr rfl
@[simp] theorem cmp_neB {kc : Nat → List (Str × Int)} {x y : Bool} : cmpF kc .NotEq (.bl x) (.bl y) st = .ok (.bl (!(x == y))) st := by
  cases x <;> cases y <;> rfl
@[simp] theorem cmp_inS {kc : Nat → List (Str × Int)} {x y : Str} : cmpF kc .In (.str x) (.str y) st = .ok (.bl (strIn x y)) st := nr rfl
@[simp] theorem cmp_niS {kc : Nat → List (Str × Int)} {x y : Str} : cmpF kc .NotIn (.str x) (.str y) st = .ok (.bl (!strIn x y)) st := nr rfl
theorem cmp_niK {kc : Nat → List (Str × Int)} {x : Str} {i : Nat} (h : (kc i).isEmpty = false) : cmpF kc .NotIn (.str x) (.kd i) st = .ok (.bl (!((kc i).lookup x).isSome)) st := by
  show dIn kc true (.str x) (.kd i) st = _
  unfold dIn inN
  simp [h]
theorem eqAll_str (n : Nat) : ∀ (xs ys : List Str), xs.length = ys.length → eqAll (eqN st (n + 1)) (xs.map D.str) (ys.map D.str) = some (decide (xs = ys))
  | [], [], _ => rfl
  | x :: xs, y :: ys, h => by
    have ih := eqAll_str n xs ys (by simpa using h)
    have e : eqN st (n + 1) (.str x) (.str y) = some (x == y) := rfl
    show (eqN st (n + 1) (.str x) (.str y)).bind _ = _
    rw [e, Option.bind_some, ih, Option.map_some]
    by_cases h1 : x = y
    · subst h1; by_cases h2 : xs = ys <;> simp [h2]
    · have : (x == y) = false := by
        cases q : x == y
        · rfl
        · exact absurd (eq_of_beq q) h1
      simp [this, h1]
theorem dEqv_lstS {xs ys : List Str} : dEqv st (.lst (xs.map D.str)) (.lst (ys.map D.str)) = some (decide (xs = ys)) := by
  show (if (xs.map D.str).length = (ys.map D.str).length then eqAll (eqN st 59) (xs.map D.str) (ys.map D.str) else some false) = _
  rw [List.length_map, List.length_map]
  by_cases h : xs.length = ys.length
  · rw [if_pos h, eqAll_str 58 xs ys h]
  · rw [if_neg h]
    have : xs ≠ ys := fun e => h (by rw [e])
    simp [this]
theorem cmp_neLS {kc : Nat → List (Str × Int)} {xs ys : List Str} : cmpF kc .NotEq (.lst (xs.map D.str)) (.lst (ys.map D.str)) st = .ok (.bl (!decide (xs = ys))) st := by
  show dNe _ _ st = _
  unfold dNe
  rw [dEqv_lstS]
theorem cmp_neL0 {kc : Nat → List (Str × Int)} {xs : List D} : cmpF kc .NotEq (.lst xs) (.lst []) st = .ok (.bl (!xs.isEmpty)) st := by
  have e : dEqv st (.lst xs) (.lst []) = some xs.isEmpty := by
    show (if xs.length = ([] : List D).length then eqAll (eqN st 59) xs [] else some false) = _
    cases xs <;> rfl
  show dNe _ _ st = _
  unfold dNe
  rw [e]
theorem inAll_str (n : Nat) (y : Str) : ∀ (xs : List Str), inAll (fun d => eqN st (n + 1) d (.str y)) (xs.map D.str) = some (decide (y ∈ xs))
  | [] => by simp [inAll]
  | x :: xs => by
    have ih := inAll_str n y xs
    have e : eqN st (n + 1) (.str x) (.str y) = some (x == y) := rfl
    show (eqN st (n + 1) (.str x) (.str y)).bind _ = _
    rw [e, Option.bind_some, ih, Option.map_some]
    by_cases h1 : x = y
    · subst h1; simp
    · have : (x == y) = false := by
        cases q : x == y
        · rfl
        · exact absurd (eq_of_beq q) h1
      have h2 : y ≠ x := fun e => h1 e.symm
      simp [this, h2]
theorem inAll_int (n : Nat) (y : Int) : ∀ (xs : List Int), inAll (fun d => eqN st (n + 1) d (.int y)) (xs.map D.int) = some (decide (y ∈ xs))
  | [] => by simp [inAll]
  | x :: xs => by
    have ih := inAll_int n y xs
    have e : eqN st (n + 1) (.int x) (.int y) = some (x == y) := rfl
    show (eqN st (n + 1) (.int x) (.int y)).bind _ = _
    rw [e, Option.bind_some, ih, Option.map_some]
    by_cases h1 : x = y
    · subst h1; simp
    · have h2 : y ≠ x := fun e => h1 e.symm
      have h3 : (x == y) = false := by simp [h1]
      simp [h3, h2]
theorem cmp_inLI {kc : Nat → List (Str × Int)} {y : Int} {xs : List Int} : cmpF kc .In (.int y) (.lst (xs.map D.int)) st = .ok (.bl (decide (y ∈ xs))) st := by
  show dIn kc false _ _ st = _
  unfold dIn
  have e : inN kc st (.int y) (.lst (xs.map D.int)) = some (decide (y ∈ xs)) := inAll_int 57 y xs
  rw [e]
  rfl
theorem cmp_niTS {kc : Nat → List (Str × Int)} {y : Str} {xs : List Str} : cmpF kc .NotIn (.str y) (.tup (xs.map D.str)) st = .ok (.bl (!decide (y ∈ xs))) st := by
  show dIn kc true _ _ st = _
  unfold dIn
  have e : inN kc st (.str y) (.tup (xs.map D.str)) = some (decide (y ∈ xs)) := inAll_str 57 y xs
  rw [e]
  rfl
theorem strsOf_map : ∀ xs : List Str, strsOf (xs.map D.str) = some xs
  | [] => rfl
  | x :: xs => by
    show (strsOf (xs.map D.str)).map _ = _
    rw [strsOf_map xs]
    rfl
end
end Bk

namespace Bk
open L2 PyProof.Rows PySem.Spec PySem

/-! ## Texts as lists of signs -/
def T (l : List Nat) : Str := ⟨l.toArray⟩
theorem T_inj {a b : List Nat} (h : T a = T b) : a = b := SX.S_inj h
theorem T_len (a : List Nat) : (T a).length = a.length := SX.S_len a
theorem T_cat (a b : List Nat) : T a ++ T b = T (a ++ b) := SX.S_cat a b
theorem T_eq {a b : List Nat} : (T a = T b) = (a = b) := propext ⟨T_inj, fun h => by rw [h]⟩
theorem T_beq {a b : List Nat} : (T a == T b) = decide (a = b) := SX.S_beq_eq
theorem T_of (x : Str) : T x.cps.toList = x := SX.S_tl x
theorem T_tl (l : List Nat) : (T l).cps.toList = l := rfl
theorem chars_T (l : List Nat) : chars (T l) = l.map fun c => D.str (T [c]) := rfl
section
variable {st : Store}
theorem dAdd_T {a b : List Nat} (h : a.length + b.length ≤ big) : dAdd (.str (T a)) (.str (T b)) st = .ok (.str (T (a ++ b))) st := by
  show (if (T a).length + (T b).length ≤ big then _ else _) = _
  rw [T_len, T_len, if_pos h, T_cat]
theorem aAdd_T {a b : List Nat} (h : a.length + b.length ≤ big) : augAdd (.str (T a)) (.str (T b)) st = .ok (.str (T (a ++ b))) st := by
  show (if (T a).length + (T b).length ≤ big then _ else _) = _
  rw [T_len, T_len, if_pos h, T_cat]
theorem bLen_T {a : List Nat} (h : a.length ≤ big) : bLen [.str (T a)] st = .ok (.int a.length) st := by
  show (if (T a).length ≤ big then _ else _) = _
  rw [T_len, if_pos h]
theorem sIx_pos {n d : Nat} {i : Int} (h : 0 ≤ i) : HT.sIx n d (some i) = min i.toNat n := by
  show (if i < 0 then _ else _) = _
  rw [if_neg (by omega)]
theorem cut_tl (a : List Nat) (lo hi : Option Int) : cutS (T a) lo hi = T ((a.drop (HT.sIx a.length 0 lo)).take (HT.sIx a.length a.length hi - HT.sIx a.length 0 lo)) := by
  unfold cutS
  rw [T_len]
  rfl
theorem to_T {a : List Nat} {i : Int} (h : 0 ≤ i) : cutS (T a) none (some i) = T (a.take i.toNat) := by
  rw [cut_tl, sIx_pos h, HT.sIx_none, List.drop_zero, Nat.sub_zero]
  refine congrArg T (List.take_eq_take_iff.mpr ?_)
  omega
theorem from_T {a : List Nat} {i : Int} (h : 0 ≤ i) : cutS (T a) (some i) none = T (a.drop i.toNat) := by
  rw [cut_tl, sIx_pos h, HT.sIx_none]
  refine congrArg T ?_
  by_cases hi : i.toNat ≤ a.length
  · rw [Nat.min_eq_left hi]
    exact List.take_of_length_le (by rw [List.length_drop]; omega)
  · rw [Nat.min_eq_right (by omega), List.drop_eq_nil_of_le (Nat.le_refl _), List.drop_eq_nil_of_le (by omega)]
    simp
theorem mid_T {a : List Nat} {i j : Int} (h : 0 ≤ i) (h2 : 0 ≤ j) : cutS (T a) (some i) (some j) = T ((a.drop i.toNat).take (j.toNat - i.toNat)) := by
  rw [cut_tl, sIx_pos h, sIx_pos h2]
  refine congrArg T ?_
  by_cases hi : i.toNat ≤ a.length
  · rw [Nat.min_eq_left hi]
    refine List.take_eq_take_iff.mpr ?_
    rw [List.length_drop]
    omega
  · rw [Nat.min_eq_right (by omega : a.length ≤ i.toNat), List.drop_eq_nil_of_le (Nat.le_refl _), List.drop_eq_nil_of_le (by omega)]
    simp
theorem butl_T {a : List Nat} (h : a ≠ []) : cutS (T a) none (some (-1)) = T (a.take (a.length - 1)) := by
  have hp : 0 < a.length := List.length_pos_iff.mpr h
  rw [cut_tl, HT.sIx_none, List.drop_zero, Nat.sub_zero]
  have e : HT.sIx a.length a.length (some (-1)) = a.length - 1 := by
    show (if (-1 : Int) < 0 then ((-1 : Int) + (a.length : Int)).toNat else min (-1 : Int).toNat a.length) = _
    rw [if_pos (by omega)]
    omega
  rw [e]
theorem dSl_to {a : List Nat} {i : Int} (h : 0 ≤ i) (hl : a.length ≤ big) : dSlice false (.str (T a)) none (some i) st = .ok (.str (T (a.take i.toNat))) st := by
  show (if (T a).length ≤ big then _ else _) = _
  rw [T_len, if_pos hl, to_T h]
theorem dSl_from {a : List Nat} {i : Int} (h : 0 ≤ i) (hl : a.length ≤ big) : dSlice false (.str (T a)) (some i) none st = .ok (.str (T (a.drop i.toNat))) st := by
  show (if (T a).length ≤ big then _ else _) = _
  rw [T_len, if_pos hl, from_T h]
theorem dSl_mid {a : List Nat} {i j : Int} (h : 0 ≤ i) (h2 : 0 ≤ j) (hl : a.length ≤ big) : dSlice false (.str (T a)) (some i) (some j) st = .ok (.str (T ((a.drop i.toNat).take (j.toNat - i.toNat)))) st := by
  show (if (T a).length ≤ big then _ else _) = _
  rw [T_len, if_pos hl, mid_T h h2]
theorem dSl_butl {a : List Nat} (h : a ≠ []) (hl : a.length ≤ big) : dSlice false (.str (T a)) none (some (-1)) st = .ok (.str (T (a.take (a.length - 1)))) st := by
  show (if (T a).length ≤ big then _ else _) = _
  rw [T_len, if_pos hl, butl_T h]
theorem in_T (c : Nat) (l : List Nat) : strIn (T [c]) (T l) = decide (c ∈ l) := rfl
/-! a sign's place -/
theorem at_one {a : List Nat} {c i : Nat} : StrLaws.At (T a) (T [c]) (T a).length i ↔ a[i]? = some c := by
  unfold StrLaws.At
  rw [StrLaws.subAt_eq, T_len, T_len]
  show (i + 1 ≤ a.length ∧ ((a.drop i).take 1 == [c]) = true) ↔ _
  constructor
  · rintro ⟨h1, h2⟩
    have h3 := eq_of_beq h2
    rw [List.drop_eq_getElem_cons (by omega), List.take_succ_cons, List.take_zero] at h3
    rw [List.getElem?_eq_getElem (by omega)]
    exact congrArg some (List.cons.inj h3).1
  · intro h
    obtain ⟨h1, h2⟩ := List.getElem?_eq_some_iff.mp h
    refine ⟨by omega, ?_⟩
    rw [List.drop_eq_getElem_cons h1, List.take_succ_cons, List.take_zero, h2]
    exact beq_self_eq_true _
theorem find_T (a : List Nat) (c : Nat) : Txt.find (T a) (T [c]) = if c ∈ a then ((a.idxOf c : Nat) : Int) else -1 := by
  rcases PyProof.Rows.find_whole (T a) (T [c]) with ⟨e, h⟩ | ⟨i, e, h, h2⟩
  · rw [if_neg, e]
    intro hm
    obtain ⟨i, hi, e⟩ := List.getElem_of_mem hm
    exact h i (at_one.mpr (by rw [List.getElem?_eq_getElem hi, e]))
  · rw [at_one] at h
    have hm : c ∈ a := List.mem_of_getElem? h
    rw [if_pos hm, e]
    refine congrArg Int.ofNat ?_
    have hx : a.idxOf c < a.length := List.idxOf_lt_length_iff.mpr hm
    have g : a[a.idxOf c]? = some c := by
      rw [List.getElem?_eq_getElem hx, List.getElem_idxOf hx]
    by_cases h3 : a.idxOf c < i
    · exact absurd (at_one.mpr g) (h2 _ h3)
    · by_cases h4 : i < a.idxOf c
      · have := List.not_of_lt_findIdx (p := (· == c)) h4
        have h5 : i < a.length := by omega
        rw [List.getElem?_eq_getElem h5] at h
        have h6 := Option.some.inj h
        simp [h6] at this
      · omega
theorem mFind_T (a : List Nat) (c : Nat) : mFind (T a) [.str (T [c])] st = .ok (.int (if c ∈ a then ((a.idxOf c : Nat) : Int) else -1)) st := by
  show R.ok (D.int (Txt.find (T a) (T [c]))) st = _
  rw [find_T]
theorem mIndex_T {a : List Nat} {c : Nat} (h : c ∈ a) : mIndex (T a) [.str (T [c])] st = .ok (.int (a.idxOf c : Nat)) st := by
  have e := find_T a c
  rw [if_pos h] at e
  unfold Txt.find at e
  unfold mIndex
  simp only
  split at e
  · rename_i i r q
    simp only [q]
    have : i = a.idxOf c := by omega
    rw [this]
  · omega
theorem mCount_T (a : List Nat) (c : Nat) : mCount (T a) [.str (T [c])] st = .ok (.int (Txt.count (T a) (T [c]))) st := rfl
/-! methods -/
def mtRun (o : Option Fn) (r : R (List D)) : R D := match o with
  | some b => r.bind fun ds st2 => b ds st2
  | none => .stuck
@[simp] theorem mtRun_some {b : Fn} {ds : List D} : mtRun (some b) (.ok ds st) = b ds st := nr rfl
@[simp] theorem sMeth_e {m : Str} {f : SE} {ga : SA} {ρ : Lc} : sMeth m f ga ρ st = (f ρ st).bind fun a st1 => mtRun (mtOf m a st1) (ga ρ st1) := by
  unfold sMeth mtRun
  rfl
@[simp] theorem mo_join {z : Str} : mtOf "join" (.str z) st = some (mJoin z) := nr rfl
@[simp] theorem mo_find {z : Str} : mtOf "find" (.str z) st = some (mFind z) := nr rfl
@[simp] theorem mo_index {z : Str} : mtOf "index" (.str z) st = some (mIndex z) := nr rfl
@[simp] theorem mo_count {z : Str} : mtOf "count" (.str z) st = some (mCount z) := nr rfl
theorem mJoin_T {z : List Nat} {xs : List (List Nat)} (h : (xs.map (·.length)).sum + xs.length * z.length ≤ big) : mJoin (T z) [.lst (xs.map fun x => D.str (T x))] st = .ok (.str (T (TL.joinL z xs))) st := by
  have e : (xs.map fun x => D.str (T x)) = (xs.map T).map D.str := by rw [List.map_map]; rfl
  unfold mJoin
  simp only
  have e2 : seqOf st (.lst (xs.map fun x => D.str (T x))) = some (xs.map fun x => D.str (T x)) := rfl
  rw [e2, Option.bind_some, e, strsOf_map]
  simp only
  rw [if_pos]
  · exact congrArg (fun x => R.ok (D.str x) st) (SX.join_S z xs)
  · rw [List.length_map, T_len]
    have : (xs.map T).map (·.length) = xs.map (·.length) := SX.lens xs
    rw [this]
    exact h
theorem joinL_nil : ∀ xs : List (List Nat), TL.joinL [] xs = xs.flatten
  | [] => rfl
  | [p] => by simp [TL.joinL]
  | p :: q :: r => by
    show p ++ ([] ++ TL.joinL [] (q :: r)) = _
    rw [joinL_nil (q :: r)]
    simp
theorem bStr_num {n : Nat} (h : n < 2 ^ 1900) : bStr [.int (n : Int)] st = .ok (.str (T (TL.numL n))) st := by
  show (if (n : Int).natAbs.log2 < 1920 then _ else _) = _
  rw [if_pos]
  · exact congrArg (fun x => R.ok (D.str x) st) (SX.num_S n)
  · rw [Int.natAbs_natCast]
    by_cases h0 : n = 0
    · subst h0; decide
    · have := (Nat.log2_lt h0).mpr h
      omega
theorem bInt_T {a : List Nat} (h : a.all (fun c => decide (48 ≤ c) && decide (c ≤ 57)) = true) (hne : a ≠ []) (hl : a.length ≤ 640) : bInt [.str (T a)] st = .ok (.int (NumText.digitsVal a : Nat)) st := by
  have e : PySem.intText? (T a) = some ((NumText.digitsVal a : Nat) : Int) := SX.int_S h hne (by omega)
  unfold bInt
  simp only
  rw [T_len, if_pos hl, e]
@[simp] theorem bInt_int {n : Int} : bInt [.int n] st = .ok (.int n) st := nr rfl
@[simp] theorem bInt_bl {b : Bool} : bInt [.bl b] st = .ok (.int (if b then 1 else 0)) st := nr rfl
@[simp] theorem bAbs_int {n : Int} : bAbs [.int n] st = .ok (.int (if n < 0 then -n else n)) st := nr rfl
@[simp] theorem sDictC_e {kvs : List (Key × D)} {ρ : Lc} : sDictC false kvs ρ st = .ok (.dK (mergeD [] kvs)) st := nr rfl
@[simp] theorem dIter_T {l : List Nat} : dIter (.str (T l)) st = .ok (wkL (l.map fun c => D.str (T [c]))) st := nr rfl
@[simp] theorem dIter_lst {ds : List D} : dIter (.lst ds) st = .ok (wkL ds) st := nr rfl
@[simp] theorem dIter_tup {ds : List D} : dIter (.tup ds) st = .ok (wkL ds) st := nr rfl
theorem mkL_f {ds : List D} (h : ds.length ≤ big) : mkL false ds st = .ok (.lst ds) st := by
  unfold mkL
  rw [if_pos h]
  rfl
theorem mkL_t {ds : List D} (h : ds.length ≤ big) : mkL true ds st = .ok (.ref st.length) (st ++ [.lst ds]) := by
  unfold mkL
  rw [if_pos h]
  rfl
theorem mkT_e {ds : List D} (h : ds.length ≤ big) : mkT ds st = .ok (.tup ds) st := by
  unfold mkT
  rw [if_pos h]
end
end Bk

namespace K03
open L2 PyProof.Rows PySem.Spec PySem Bk

def M_rest_t0 : SS := (sSeq (sRaise 1) sNx)
def M_rest_t2 : SS := (sSeq (sRaise 1) sNx)
def M_rest_f1 : SS := (sSeq (sAsg (sMeth "find" (sVal (.str (T [48, 49, 50, 51, 52, 53, 54, 55, 56, 57, 97, 98, 99, 100, 101, 102, 103, 104, 105, 106, 107, 108, 109, 110, 111, 112, 113, 114, 115, 116, 117, 118, 119, 120, 121, 122]))) (sCons (sVar 2) sNil)) (gName' 3)) (sSeq (sIfS (tVal (sBin (cmpF pc_kc .Lt) (sVar 3) (sVal (.int 0)))) M_rest_t2 sNx) (sSeq (sAsg (sBin dMod (sBin dAdd (sBin dMul (sVar 1) (sIf (tVal (sBin (cmpF pc_kc .Lt) (sVar 3) (sVal (.int 10)))) (sVal (.int 10)) (sVal (.int 100)))) (sVar 3)) (sVal (.int 97))) (gName' 1)) sNx)))
def M_rest : SS := (sSeq (sIfS (tVal (sBin (cmpF pc_kc .Eq) (sVar 0) (sVal (.str (T []))))) M_rest_t0 sNx) (sSeq (sAsg (sVal (.int 0)) (gName' 1)) (sSeq (sForS (iVal (sVar 0)) (gName' 2) M_rest_f1) (sSeq (sRet (sVar 1)) sNx))))
theorem den_rest : denSs S_rest 60 ⟨defScope st_rest, fun _ => true, 4, false, false⟩ (defBody st_rest) = M_rest := by kernel_rfl
def M_with_check_t0 : SS := (sSeq (sRaise 1) sNx)
def M_with_check : SS := (sSeq (sIfS (tOr' (tVal (sBin (cmpF pc_kc .NotIn) (sVar 0) (sVal (.kd 0)))) (tOr' (tVal (sBin (cmpF pc_kc .NotEq) (sCall bLen (sCons (sVar 1) sNil)) (sBin (dIx pc_kc) (sVal (.kd 0)) (sVar 0)))) (tVal (sAny true [3] (iVal (sVar 1)) (gName' 3) tYesE (sBin (cmpF pc_kc .NotIn) (sVar 3) (sVal (.str (T [48, 49, 50, 51, 52, 53, 54, 55, 56, 57])))))))) M_with_check_t0 sNx) (sSeq (sAsg (sBin dSub (sVal (.int 98)) (sCall F_rest (sCons (sBin dAdd (sBin dAdd (sVar 1) (sVar 0)) (sVal (.str (T [48, 48])))) sNil))) (gName' 2)) (sSeq (sRet (sBin dAdd (sBin dAdd (sBin dAdd (sVar 0) (sCall bStr (sCons (sBin dDiv (sVar 2) (sVal (.int 10))) sNil))) (sCall bStr (sCons (sBin dMod (sVar 2) (sVal (.int 10))) sNil))) (sVar 1))) sNx)))
theorem den_with_check : denSs S_with_check 60 ⟨defScope st_with_check, fun _ => true, 4, true, false⟩ (defBody st_with_check) = M_with_check := by kernel_rfl
def M_is_good_t0 : SS := (sSeq (sRet (sVal (.bl false))) sNx)
def M_is_good : SS := (sSeq (sAsg (sTupE (sCons (sSlice false (sVar 0) pNone (pSome (sVal (.int 2)))) (sCons (sSlice false (sVar 0) (pSome (sVal (.int 2))) (pSome (sVal (.int 4)))) (sCons (sSlice false (sVar 0) (pSome (sVal (.int 4))) pNone) sNil)))) (gTup' [gName' 1, gName' 2, gName' 3])) (sSeq (sIfS (tOr' (tVal (sBin (cmpF pc_kc .NotIn) (sVar 1) (sVal (.kd 0)))) (tOr' (tVal (sBin (cmpF pc_kc .NotEq) (sCall bLen (sCons (sVar 3) sNil)) (sBin (dIx pc_kc) (sVal (.kd 0)) (sVar 1)))) (tVal (sAny true [4] (iVal (sBin dAdd (sVar 2) (sVar 3))) (gName' 4) tYesE (sBin (cmpF pc_kc .NotIn) (sVar 4) (sVal (.str (T [48, 49, 50, 51, 52, 53, 54, 55, 56, 57])))))))) M_is_good_t0 sNx) (sSeq (sRet (sAndT (sChain (cmpF pc_kc .LtE) (cmpF pc_kc .LtE) (sVal (.int 2)) (sCall bInt (sCons (sVar 2) sNil)) (sVal (.int 98))) (sBin (cmpF pc_kc .Eq) (sCall F_rest (sCons (sBin dAdd (sBin dAdd (sVar 3) (sVar 1)) (sVar 2)) sNil)) (sVal (.int 1))))) sNx)))
theorem den_is_good : denSs S_is_good 60 ⟨defScope st_is_good, fun _ => true, 4, true, false⟩ (defBody st_is_good) = M_is_good := by kernel_rfl
def M_parted_t0 : SS := (sSeq (sRaise 1) sNx)
def M_parted : SS := (sSeq (sIfS (tNot' (tVal (sCall F_is_good (sCons (sVar 0) sNil)))) M_parted_t0 sNx) (sSeq (sRet (sMeth "join" (sVal (.str (T [32]))) (sCons (sComp false [1] (iRng3' (sVal (.int 0)) (sCall bLen (sCons (sVar 0) sNil)) (sVal (.int 4))) (gName' 1) tYesE (sSlice false (sVar 0) (pSome (sVar 1)) (pSome (sBin dAdd (sVar 1) (sVal (.int 4)))))) sNil))) sNx))
theorem den_parted : denSs S_parted 60 ⟨defScope st_parted, fun _ => true, 4, false, false⟩ (defBody st_parted) = M_parted := by kernel_rfl
def M_read_t1 : SS := (sSeq (sAugS 1 augAdd (sIf (tVal (sBin (cmpF pc_kc .GtE) (sVar 3) (sVal (.int 0)))) (sBin (dIx pc_kc) (sVal (.str (T [97, 98, 99, 100, 101, 102, 103, 104, 105, 106, 107, 108, 109, 110, 111, 112, 113, 114, 115, 116, 117, 118, 119, 120, 121, 122]))) (sVar 3)) (sVar 2))) sNx)
def M_read_f0 : SS := (sSeq (sAsg (sMeth "find" (sVal (.str (T [65, 66, 67, 68, 69, 70, 71, 72, 73, 74, 75, 76, 77, 78, 79, 80, 81, 82, 83, 84, 85, 86, 87, 88, 89, 90]))) (sCons (sVar 2) sNil)) (gName' 3)) (sSeq (sIfS (tVal (sBin (cmpF pc_kc .NotEq) (sVar 2) (sVal (.str (T [32]))))) M_read_t1 sNx) sNx))
def M_read_t2 : SS := (sSeq (sRaise 1) sNx)
def M_read : SS := (sSeq (sAsg (sVal (.str (T []))) (gName' 1)) (sSeq (sForS (iVal (sVar 0)) (gName' 2) M_read_f0) (sSeq (sIfS (tNot' (tVal (sCall F_is_good (sCons (sVar 1) sNil)))) M_read_t2 sNx) (sSeq (sRet (sVar 1)) sNx))))
theorem den_read : denSs S_read 60 ⟨defScope st_read, fun _ => true, 4, false, false⟩ (defBody st_read) = M_read := by kernel_rfl
def M_slips_of_t0 : SS := (sSeq (sRaise 1) sNx)
def M_slips_of_f2 : SS := (sSeq (sSetS (sVal (.bl true)) (sVar 1) (sBin dAdd (sBin dAdd (sSlice false (sVar 0) pNone (pSome (sVar 2))) (sVar 3)) (sSlice false (sVar 0) (pSome (sBin dAdd (sVar 2) (sVal (.int 1)))) pNone))) sNx)
def M_slips_of_t3 : SS := (sSeq (sSetS (sVal (.bl true)) (sVar 1) (sBin dAdd (sBin dAdd (sBin dAdd (sSlice false (sVar 0) pNone (pSome (sVar 2))) (sBin (dIx pc_kc) (sVar 0) (sBin dAdd (sVar 2) (sVal (.int 1))))) (sBin (dIx pc_kc) (sVar 0) (sVar 2))) (sSlice false (sVar 0) (pSome (sBin dAdd (sVar 2) (sVal (.int 2)))) pNone))) sNx)
def M_slips_of_f1 : SS := (sSeq (sForS (iVal (sVal (.str (T [48, 49, 50, 51, 52, 53, 54, 55, 56, 57])))) (gName' 3) M_slips_of_f2) (sSeq (sIfS (tVal (sBin (cmpF pc_kc .Lt) (sBin dAdd (sVar 2) (sVal (.int 1))) (sCall bLen (sCons (sVar 0) sNil)))) M_slips_of_t3 sNx) sNx))
def M_slips_of : SS := (sSeq (sIfS (tOr' (tVal (sBin (cmpF pc_kc .NotIn) (sSlice false (sVar 0) pNone (pSome (sVal (.int 2)))) (sVal (.kd 0)))) (tVal (sBin (cmpF pc_kc .NotEq) (sCall bLen (sCons (sVar 0) sNil)) (sBin dAdd (sBin (dIx pc_kc) (sVal (.kd 0)) (sSlice false (sVar 0) pNone (pSome (sVal (.int 2))))) (sVal (.int 4)))))) M_slips_of_t0 sNx) (sSeq (sAsg (sDictC true []) (gName' 1)) (sSeq (sForS (iRng2' (sVal (.int 2)) (sCall bLen (sCons (sVar 0) sNil))) (gName' 2) M_slips_of_f1) (sSeq (sRet (sCall bTupS (sCons (genL [4] (iVal (sVar 1)) (gName' 4) (tAnd' (tVal (sBin (cmpF pc_kc .NotEq) (sVar 4) (sVar 0))) (tVal (sCall F_is_good (sCons (sVar 4) sNil)))) (sVar 4) kSortS) sNil))) sNx))))
theorem den_slips_of : denSs S_slips_of 60 ⟨defScope st_slips_of, fun _ => true, 4, true, false⟩ (defBody st_slips_of) = M_slips_of := by kernel_rfl
def M_missing_t0 : SS := (sSeq (sRaise 1) sNx)
def M_missing_f1 : SS := (sSeq (sAsg (sComp2 false [3, 4] [4] (iVal (sVar 1)) (gName' 3) (iVal (sIf (tVal (sBin (cmpF pc_kc .Eq) (sVar 2) (sVal (.str (T [63]))))) (sVal (.str (T [48, 49, 50, 51, 52, 53, 54, 55, 56, 57]))) (sVar 2))) (gName' 4) tYesE (sBin dAdd (sVar 3) (sVar 4))) (gName' 1)) sNx)
def M_missing : SS := (sSeq (sIfS (tOr' (tVal (sBin (cmpF pc_kc .NotIn) (sSlice false (sVar 0) pNone (pSome (sVal (.int 2)))) (sVal (.kd 0)))) (tOr' (tVal (sBin (cmpF pc_kc .NotEq) (sCall bLen (sCons (sVar 0) sNil)) (sBin dAdd (sBin (dIx pc_kc) (sVal (.kd 0)) (sSlice false (sVar 0) pNone (pSome (sVal (.int 2))))) (sVal (.int 4))))) (tVal (sBin (cmpF pc_kc .Gt) (sMeth "count" (sVar 0) (sCons (sVal (.str (T [63]))) sNil)) (sVal (.int 3)))))) M_missing_t0 sNx) (sSeq (sAsg (sLstE false (sCons (sVal (.str (T []))) sNil)) (gName' 1)) (sSeq (sForS (iVal (sVar 0)) (gName' 2) M_missing_f1) (sSeq (sRet (sCall bTupS (sCons (genL [4] (iVal (sVar 1)) (gName' 4) (tVal (sCall F_is_good (sCons (sVar 4) sNil))) (sVar 4) kSortS) sNil))) sNx))))
theorem den_missing : denSs S_missing 60 ⟨defScope st_missing, fun _ => true, 4, true, false⟩ (defBody st_missing) = M_missing := by kernel_rfl
def M_serial_t0 : SS := (sSeq (sRaise 1) sNx)
def M_serial : SS := (sSeq (sAsg (sCall bStr (sCons (sVar 2) sNil)) (gName' 3)) (sSeq (sIfS (tOr' (tVal (sBin (cmpF pc_kc .NotIn) (sVar 0) (sVal (.kd 0)))) (tOr' (tVal (sBin (cmpF pc_kc .Lt) (sVar 2) (sVal (.int 0)))) (tVal (sBin (cmpF pc_kc .Gt) (sBin dAdd (sCall bLen (sCons (sVar 1) sNil)) (sCall bLen (sCons (sVar 3) sNil))) (sBin (dIx pc_kc) (sVal (.kd 0)) (sVar 0)))))) M_serial_t0 sNx) (sSeq (sRet (sCall F_with_check (sCons (sVar 0) (sCons (sBin dAdd (sBin dAdd (sVar 1) (sBin dMul (sVal (.str (T [48]))) (sBin dSub (sBin dSub (sBin (dIx pc_kc) (sVal (.kd 0)) (sVar 0)) (sCall bLen (sCons (sVar 1) sNil))) (sCall bLen (sCons (sVar 3) sNil))))) (sVar 3)) sNil)))) sNx)))
theorem den_serial : denSs S_serial 60 ⟨defScope st_serial, fun _ => true, 4, false, false⟩ (defBody st_serial) = M_serial := by kernel_rfl
def M_law_dice_t0 : SS := (sSeq (sRet (sLstE true (sCons (sCall bAbs (sCons (sVar 0) sNil)) (sCons (sVal (.int 0)) (sCons (sVal (.int 2)) sNil))))) sNx)
def M_law_dice : SS := (sSeq (sIfS (tVal (sChain (cmpF pc_kc .Lt) (cmpF pc_kc .Lt) (sBin dSub (sVal (.int 0)) (sVal (.int 10))) (sVar 0) (sVal (.int 10)))) M_law_dice_t0 sNx) (sSeq (sRet (sLstE true (sCons (sVar 0) (sCons (sBin dAdd (sVal (.int 1)) (sBin dMod (sCall bInt (sCons (sVar 0) sNil)) (sVal (.int 1009)))) (sCons (sCall bInt (sCons (sBin (cmpF pc_kc .GtE) (sVar 0) (sBin dPow (sVal (.int 10)) (sVal (.int 18)))) sNil)) sNil))))) sNx))
theorem den_law_dice : denSs S_law_dice 60 ⟨defScope st_law_dice, fun _ => true, 4, false, false⟩ (defBody st_law_dice) = M_law_dice := by kernel_rfl
def M_law_roll_t0 : SS := (sSeq (sAsg (sBin dMod (sCall bInt (sCons (sBin (dIx pc_kc) (sVar 0) (sVal (.int 0))) sNil)) (sVar 1)) (gName' 2)) (sSeq (sSetS (sBin dDiv (sBin (dIx pc_kc) (sVar 0) (sVal (.int 0))) (sVar 1)) (sVar 0) (sVal (.int 0))) (sSeq (sRet (sVar 2)) sNx)))
def M_law_roll_t1 : SS := (sSeq (sRet (sBin dMod (sCall bInt (sCons (sBin dAdd (sBin dMul stuckE (sVal (.int 100000000))) stuckE) sNil)) (sVar 1))) sNx)
def M_law_roll : SS := (sSeq (sIfS (tOr' (tVal (sBin (cmpF pc_kc .Eq) (sBin (dIx pc_kc) (sVar 0) (sVal (.int 2))) (sVal (.int 2)))) (tAnd' (tVal (sBin (cmpF pc_kc .Eq) (sBin (dIx pc_kc) (sVar 0) (sVal (.int 2))) (sVal (.int 1)))) (tVal (sBin (cmpF pc_kc .Gt) (sBin (dIx pc_kc) (sVar 0) (sVal (.int 0))) (sVal (.int 0)))))) M_law_roll_t0 sNx) (sSeq (sSetS (sVal (.int 0)) (sVar 0) (sVal (.int 2))) (sSeq (sIfS (tVal (sBin (cmpF pc_kc .Gt) (sVar 1) (sVal (.int 100000000)))) M_law_roll_t1 sNx) (sSeq (sSetS (sBin dMod (sCall bInt (sCons (sBin dAdd (sBin dAdd (sBin dMul (sBin (dIx pc_kc) (sVar 0) (sVal (.int 0))) (sVal (.int 48271))) (sBin dMul (sBin (dIx pc_kc) (sVar 0) (sVal (.int 1))) (sVal (.int 69621)))) (sVal (.int 11))) sNil)) (sVal (.int 2147483647))) (sVar 0) (sVal (.int 0))) (sSeq (sSetS (sBin dAdd (sBin (dIx pc_kc) (sVar 0) (sVal (.int 1))) (sVal (.int 1))) (sVar 0) (sVal (.int 1))) (sSeq (sRet (sBin dMod (sCall bInt (sCons (sBin dDiv (sBin (dIx pc_kc) (sVar 0) (sVal (.int 0))) (sVal (.int 7))) sNil)) (sVar 1))) sNx))))))
theorem den_law_roll : denSs S_law_roll 60 ⟨defScope st_law_roll, fun _ => true, 4, false, false⟩ (defBody st_law_roll) = M_law_roll := by kernel_rfl
def M_law_rounds_t0 : SS := (sSeq (sAsg (sLstE false (sCons (sVal (.int 0)) sNil)) (gName' 2)) sNx)
def M_law_rounds : SS := (sSeq (sAsg (sSlice false (sVar 0) pNone (pSome (sVar 1))) (gName' 2)) (sSeq (sIfS (tVal (sBin (cmpF pc_kc .Eq) (sVar 2) (sLstE false sNil))) M_law_rounds_t0 sNx) (sSeq (sRet (sComp false [3] (iVal (sVar 2)) (gName' 3) tYesE (sCall F_law_dice (sCons (sVar 3) sNil)))) sNx)))
theorem den_law_rounds : denSs S_law_rounds 60 ⟨defScope st_law_rounds, fun _ => true, 4, false, false⟩ (defBody st_law_rounds) = M_law_rounds := by kernel_rfl
def M_law_rest : SS := (sSeq (sAsg (sMeth "join" (sVal (.str (T []))) (sCons (sComp false [2] (iVal (sVar 0)) (gName' 2) tYesE (sIf (tVal (sBin (cmpF pc_kc .In) (sVar 2) (sVal (.str (T [48, 49, 50, 51, 52, 53, 54, 55, 56, 57]))))) (sVar 2) (sCall bStr (sCons (sBin dAdd (sVal (.int 10)) (sMeth "index" (sVal (.str (T [97, 98, 99, 100, 101, 102, 103, 104, 105, 106, 107, 108, 109, 110, 111, 112, 113, 114, 115, 116, 117, 118, 119, 120, 121, 122]))) (sCons (sVar 2) sNil))) sNil)))) sNil)) (gName' 1)) (sSeq (sRet (sBin dMod (sCall bInt (sCons (sVar 1) sNil)) (sVal (.int 97)))) sNx))
theorem den_law_rest : denSs S_law_rest 60 ⟨defScope st_law_rest, fun _ => true, 4, false, false⟩ (defBody st_law_rest) = M_law_rest := by kernel_rfl
def M_law_good_t0 : SS := (sSeq (sRet (sVal (.bl false))) sNx)
def M_law_good_t1 : SS := (sSeq (sRet (sVal (.bl false))) sNx)
def M_law_good : SS := (sSeq (sAsg (sDictC false [(.inr (T [97, 116]), (.int 16)), (.inr (T [98, 101]), (.int 12)), (.inr (T [99, 104]), (.int 17)), (.inr (T [102, 105]), (.int 14)), (.inr (T [110, 111]), (.int 11))]) (gName' 1)) (sSeq (sAsg (sTupE (sCons (sSlice false (sVar 0) pNone (pSome (sVal (.int 2)))) (sCons (sSlice false (sVar 0) (pSome (sVal (.int 2))) pNone) sNil))) (gTup' [gName' 2, gName' 3])) (sSeq (sIfS (tOr' (tVal (sBin (cmpF pc_kc .NotIn) (sVar 2) (sVar 1))) (tVal (sBin (cmpF pc_kc .NotEq) (sCall bLen (sCons (sVar 3) sNil)) (sBin dAdd (sBin (dIx pc_kc) (sVar 1) (sVar 2)) (sVal (.int 2)))))) M_law_good_t0 sNx) (sSeq (sIfS (tVal (sBin (cmpF pc_kc .NotEq) (sComp false [4] (iVal (sVar 3)) (gName' 4) (tVal (sBin (cmpF pc_kc .NotIn) (sVar 4) (sVal (.str (T [48, 49, 50, 51, 52, 53, 54, 55, 56, 57]))))) (sVar 4)) (sLstE false sNil))) M_law_good_t1 sNx) (sSeq (sRet (sAndT (sChain (cmpF pc_kc .LtE) (cmpF pc_kc .LtE) (sVal (.int 2)) (sCall bInt (sCons (sSlice false (sVar 3) pNone (pSome (sVal (.int 2)))) sNil)) (sVal (.int 98))) (sBin (cmpF pc_kc .Eq) (sCall F_law_rest (sCons (sBin dAdd (sBin dAdd (sSlice false (sVar 3) (pSome (sVal (.int 2))) pNone) (sVar 2)) (sSlice false (sVar 3) pNone (pSome (sVal (.int 2))))) sNil)) (sVal (.int 1))))) sNx)))))
theorem den_law_good : denSs S_law_good 60 ⟨defScope st_law_good, fun _ => true, 4, false, false⟩ (defBody st_law_good) = M_law_good := by kernel_rfl
def lamsc_0 : Scope := (lamAt 0 (lamsOf (defBody st_law_plain))).1
def lambd_0 : Expr := (lamAt 0 (lamsOf (defBody st_law_plain))).2
def lamsc_1 : Scope := (lamAt 1 (lamsOf (defBody st_law_plain))).1
def lambd_1 : Expr := (lamAt 1 (lamsOf (defBody st_law_plain))).2
def lamsc_2 : Scope := (lamAt 2 (lamsOf (defBody st_law_plain))).1
def lambd_2 : Expr := (lamAt 2 (lamsOf (defBody st_law_plain))).2
def lamsc_3 : Scope := (lamAt 3 (lamsOf (defBody st_law_plain))).1
def lambd_3 : Expr := (lamAt 3 (lamsOf (defBody st_law_plain))).2
def lamsc_4 : Scope := (lamAt 4 (lamsOf (defBody st_law_plain))).1
def lambd_4 : Expr := (lamAt 4 (lamsOf (defBody st_law_plain))).2
def lamsc_5 : Scope := (lamAt 5 (lamsOf (defBody st_law_plain))).1
def lambd_5 : Expr := (lamAt 5 (lamsOf (defBody st_law_plain))).2
def lamsc_6 : Scope := (lamAt 6 (lamsOf (defBody st_law_plain))).1
def lambd_6 : Expr := (lamAt 6 (lamsOf (defBody st_law_plain))).2
def lamsc_7 : Scope := (lamAt 7 (lamsOf (defBody st_law_plain))).1
def lambd_7 : Expr := (lamAt 7 (lamsOf (defBody st_law_plain))).2
def lamsc_8 : Scope := (lamAt 8 (lamsOf (defBody st_law_plain))).1
def lambd_8 : Expr := (lamAt 8 (lamsOf (defBody st_law_plain))).2
def lamsc_9 : Scope := (lamAt 9 (lamsOf (defBody st_law_plain))).1
def lambd_9 : Expr := (lamAt 9 (lamsOf (defBody st_law_plain))).2
def lamsc_10 : Scope := (lamAt 10 (lamsOf (defBody st_law_plain))).1
def lambd_10 : Expr := (lamAt 10 (lamsOf (defBody st_law_plain))).2
def lamsc_11 : Scope := (lamAt 11 (lamsOf (defBody st_law_plain))).1
def lambd_11 : Expr := (lamAt 11 (lamsOf (defBody st_law_plain))).2
def lamsc_12 : Scope := (lamAt 12 (lamsOf (defBody st_law_plain))).1
def lambd_12 : Expr := (lamAt 12 (lamsOf (defBody st_law_plain))).2
def lamsc_13 : Scope := (lamAt 13 (lamsOf (defBody st_law_plain))).1
def lambd_13 : Expr := (lamAt 13 (lamsOf (defBody st_law_plain))).2
def lamsc_14 : Scope := (lamAt 14 (lamsOf (defBody st_law_plain))).1
def lambd_14 : Expr := (lamAt 14 (lamsOf (defBody st_law_plain))).2
def lamsc_15 : Scope := (lamAt 15 (lamsOf (defBody st_law_plain))).1
def lambd_15 : Expr := (lamAt 15 (lamsOf (defBody st_law_plain))).2
def lamsc_16 : Scope := (lamAt 16 (lamsOf (defBody st_law_plain))).1
def lambd_16 : Expr := (lamAt 16 (lamsOf (defBody st_law_plain))).2
def lamsc_17 : Scope := (lamAt 17 (lamsOf (defBody st_law_plain))).1
def lambd_17 : Expr := (lamAt 17 (lamsOf (defBody st_law_plain))).2
def lamsc_18 : Scope := (lamAt 18 (lamsOf (defBody st_law_plain))).1
def lambd_18 : Expr := (lamAt 18 (lamsOf (defBody st_law_plain))).2
def M_law_plain_s0 : SS := (sAsg (sCall F_with_check (sCons (sVal (.str (T [110, 111]))) (sCons (sVal (.str (T [52, 55, 49, 49, 48, 48, 48, 48, 48, 48, 49]))) sNil))) (gName' 0))
def M_law_plain_s1 : SS := (sAsg (sLstE false (sCons (sVal (.clo lamsc_0 lambd_0)) (sCons (sVal (.clo lamsc_1 lambd_1)) (sCons (sVal (.clo lamsc_2 lambd_2)) (sCons (sVal (.clo lamsc_3 lambd_3)) (sCons (sVal (.clo lamsc_4 lambd_4)) (sCons (sVal (.clo lamsc_5 lambd_5)) (sCons (sVal (.clo lamsc_6 lambd_6)) (sCons (sVal (.clo lamsc_7 lambd_7)) (sCons (sVal (.clo lamsc_8 lambd_8)) (sCons (sVal (.clo lamsc_9 lambd_9)) (sCons (sVal (.clo lamsc_10 lambd_10)) (sCons (sVal (.clo lamsc_11 lambd_11)) (sCons (sVal (.clo lamsc_12 lambd_12)) (sCons (sVal (.clo lamsc_13 lambd_13)) (sCons (sVal (.clo lamsc_14 lambd_14)) (sCons (sVal (.clo lamsc_15 lambd_15)) (sCons (sVal (.clo lamsc_16 lambd_16)) (sCons (sVal (.clo lamsc_17 lambd_17)) (sCons (sVal (.clo lamsc_18 lambd_18)) sNil)))))))))))))))))))) (gName' 1))
def M_law_plain_t2 : SS := (sSeq (sRet (sVal (.bl false))) sNx)
def M_law_plain_s3 : SS := (sIfS (tVal (sBin (cmpF pc_kc .NotEq) (sComp false [2] (iVal (sVar 1)) (gName' 2) (tVal (sBin (cmpF pc_kc .NotEq) (sToldB [2] (T [78, 117, 109, 98, 101, 114, 69, 114, 114, 111, 114]) S_law_plain.caught (fun lsc body => denE S_law_plain 54 ((Scp.mk (defScope st_law_plain) (fun _ => true) 4 false true).lamS lsc) body) (sVar 2)) (sVal (.str (T [78, 117, 109, 98, 101, 114, 69, 114, 114, 111, 114]))))) (sVal (.int 1))) (sLstE false sNil))) M_law_plain_t2 sNx)
def M_law_plain_t4 : SS := (sSeq (sRet (sVal (.bl false))) sNx)
def M_law_plain_s5 : SS := (sIfS (tOr' (tVal (sBin (cmpF pc_kc .NotEq) (sCall (bDictX pc_kc) (sCons (sVal (.kd 0)) sNil)) (sDictC false [(.inr (T [97, 116]), (.int 16)), (.inr (T [98, 101]), (.int 12)), (.inr (T [99, 104]), (.int 17)), (.inr (T [102, 105]), (.int 14)), (.inr (T [110, 111]), (.int 11))]))) (tVal (sBin (cmpF pc_kc .NotEq) (sVal (.int 17)) (sVal (.int 17))))) M_law_plain_t4 sNx)
def M_law_plain_t6 : SS := (sSeq (sRet (sVal (.bl false))) sNx)
def M_law_plain_s7 : SS := (sIfS (tVal (sBin (cmpF pc_kc .NotEq) (sVar 0) (sVal (.str (T [110, 111, 51, 52, 52, 55, 49, 49, 48, 48, 48, 48, 48, 48, 49]))))) M_law_plain_t6 sNx)
def M_law_plain_t8 : SS := (sSeq (sRet (sVal (.bl false))) sNx)
def M_law_plain_s9 : SS := (sIfS (tNot' (tAnd' (tVal (sBin (cmpF pc_kc .Eq) (sCall F_parted (sCons (sVar 0) sNil)) (sVal (.str (T [110, 111, 51, 52, 32, 52, 55, 49, 49, 32, 48, 48, 48, 48, 32, 48, 48, 49]))))) (tVal (sBin (cmpF pc_kc .Eq) (sCall F_read (sCons (sVal (.str (T [78, 79, 51, 52, 32, 52, 55, 49, 49, 32, 48, 48, 48, 48, 32, 48, 48, 49]))) sNil)) (sVar 0))))) M_law_plain_t8 sNx)
def M_law_plain_s10 : SS := (sRet (sAndT (sBin (cmpF pc_kc .Eq) (sCall F_slips_of (sCons (sVar 0) sNil)) (sTupE sNil)) (sAndT (sBin (cmpF pc_kc .Eq) (sCall F_missing (sCons (sVal (.str (T [110, 111, 51, 52, 52, 63, 49, 49, 48, 48, 48, 48, 48, 48, 49]))) sNil)) (sTupE (sCons (sVar 0) sNil))) (sAndT (sBin (cmpF pc_kc .Eq) (sCall F_serial (sCons (sVal (.str (T [99, 104]))) (sCons (sVal (.str (T [57]))) (sCons (sVal (.int 12)) sNil)))) (sVal (.str (T [99, 104, 54, 57, 57, 48, 48, 48, 48, 48, 48, 48, 48, 48, 48, 48, 48, 48, 48, 49, 50])))) (sAndT (sBin (cmpF pc_kc .Eq) (sCall F_rest (sCons (sVal (.str (T [57, 55]))) sNil)) (sVal (.int 0))) (sNotT (sCall F_is_good (sCons (sVal (.str (T []))) sNil))))))))
def M_law_plain : SS := (sSeq M_law_plain_s0 (sSeq M_law_plain_s1 (sSeq M_law_plain_s3 (sSeq M_law_plain_s5 (sSeq M_law_plain_s7 (sSeq M_law_plain_s9 (sSeq M_law_plain_s10 sNx)))))))
theorem run_0 : denE S_law_plain 54 ((Scp.mk (defScope st_law_plain) (fun _ => true) 4 false true).lamS lamsc_0) lambd_0 = (sCall F_rest (sCons (sVal (.str (T []))) sNil)) := by kernel_rfl
theorem run_1 : denE S_law_plain 54 ((Scp.mk (defScope st_law_plain) (fun _ => true) 4 false true).lamS lamsc_1) lambd_1 = (sCall F_rest (sCons (sVal (.str (T [65]))) sNil)) := by kernel_rfl
theorem run_2 : denE S_law_plain 54 ((Scp.mk (defScope st_law_plain) (fun _ => true) 4 false true).lamS lamsc_2) lambd_2 = (sCall F_rest (sCons (sVal (.str (T [49, 32, 50]))) sNil)) := by kernel_rfl
theorem run_3 : denE S_law_plain 54 ((Scp.mk (defScope st_law_plain) (fun _ => true) 4 false true).lamS lamsc_3) lambd_3 = (sCall F_with_check (sCons (sVal (.str (T [120, 120]))) (sCons (sVal (.str (T [49]))) sNil))) := by kernel_rfl
theorem run_4 : denE S_law_plain 54 ((Scp.mk (defScope st_law_plain) (fun _ => true) 4 false true).lamS lamsc_4) lambd_4 = (sCall F_with_check (sCons (sVal (.str (T [110, 111]))) (sCons (sVal (.str (T [49]))) sNil))) := by kernel_rfl
theorem run_5 : denE S_law_plain 54 ((Scp.mk (defScope st_law_plain) (fun _ => true) 4 false true).lamS lamsc_5) lambd_5 = (sCall F_with_check (sCons (sVal (.str (T [110, 111]))) (sCons (sVal (.str (T [52, 55, 49, 49, 48, 48, 48, 48, 48, 48, 97]))) sNil))) := by kernel_rfl
theorem run_6 : denE S_law_plain 54 ((Scp.mk (defScope st_law_plain) (fun _ => true) 4 false true).lamS lamsc_6) lambd_6 = (sCall F_parted (sCons (sVal (.str (T [110, 111, 48, 48]))) sNil)) := by kernel_rfl
theorem run_7 : denE S_law_plain 54 ((Scp.mk (defScope st_law_plain) (fun _ => true) 4 false true).lamS lamsc_7) lambd_7 = (sCall F_parted (sCons (sVal (.str (T [110, 111, 48, 48, 52, 55, 49, 49, 48, 48, 48, 48, 48, 48, 49]))) sNil)) := by kernel_rfl
theorem run_8 : denE S_law_plain 54 ((Scp.mk (defScope st_law_plain) (fun _ => true) 4 false true).lamS lamsc_8) lambd_8 = (sCall F_read (sCons (sVal (.str (T []))) sNil)) := by kernel_rfl
theorem run_9 : denE S_law_plain 54 ((Scp.mk (defScope st_law_plain) (fun _ => true) 4 false true).lamS lamsc_9) lambd_9 = (sCall F_read (sCons (sBin dAdd (sVar 0) (sVal (.str (T [49])))) sNil)) := by kernel_rfl
theorem run_10 : denE S_law_plain 54 ((Scp.mk (defScope st_law_plain) (fun _ => true) 4 false true).lamS lamsc_10) lambd_10 = (sCall F_slips_of (sCons (sVal (.str (T [120, 120]))) sNil)) := by kernel_rfl
theorem run_11 : denE S_law_plain 54 ((Scp.mk (defScope st_law_plain) (fun _ => true) 4 false true).lamS lamsc_11) lambd_11 = (sCall F_slips_of (sCons (sVal (.str (T [110, 111, 49]))) sNil)) := by kernel_rfl
theorem run_12 : denE S_law_plain 54 ((Scp.mk (defScope st_law_plain) (fun _ => true) 4 false true).lamS lamsc_12) lambd_12 = (sCall F_missing (sCons (sVal (.str (T [110, 111, 63, 63, 63, 63, 48, 48, 48, 48, 48, 48, 49]))) sNil)) := by kernel_rfl
theorem run_13 : denE S_law_plain 54 ((Scp.mk (defScope st_law_plain) (fun _ => true) 4 false true).lamS lamsc_13) lambd_13 = (sCall F_missing (sCons (sVal (.str (T [63, 111, 51, 52, 52, 55, 49, 49, 48, 48, 48, 48, 48, 48, 49]))) sNil)) := by kernel_rfl
theorem run_14 : denE S_law_plain 54 ((Scp.mk (defScope st_law_plain) (fun _ => true) 4 false true).lamS lamsc_14) lambd_14 = (sCall F_missing (sCons (sVal (.str (T [110, 111]))) sNil)) := by kernel_rfl
theorem run_15 : denE S_law_plain 54 ((Scp.mk (defScope st_law_plain) (fun _ => true) 4 false true).lamS lamsc_15) lambd_15 = (sCall F_serial (sCons (sVal (.str (T [120, 120]))) (sCons (sVal (.str (T [49]))) (sCons (sVal (.int 1)) sNil)))) := by kernel_rfl
theorem run_16 : denE S_law_plain 54 ((Scp.mk (defScope st_law_plain) (fun _ => true) 4 false true).lamS lamsc_16) lambd_16 = (sCall F_serial (sCons (sVal (.str (T [110, 111]))) (sCons (sVal (.str (T [49]))) (sCons (sUn dNeg (sVal (.int 1))) sNil)))) := by kernel_rfl
theorem run_17 : denE S_law_plain 54 ((Scp.mk (defScope st_law_plain) (fun _ => true) 4 false true).lamS lamsc_17) lambd_17 = (sCall F_serial (sCons (sVal (.str (T [110, 111]))) (sCons (sVal (.str (T [49, 50, 51, 52, 53, 54, 55, 56, 57, 48, 49, 50]))) (sCons (sVal (.int 1)) sNil)))) := by kernel_rfl
theorem run_18 : denE S_law_plain 54 ((Scp.mk (defScope st_law_plain) (fun _ => true) 4 false true).lamS lamsc_18) lambd_18 = (sCall F_serial (sCons (sVal (.str (T [110, 111]))) (sCons (sVal (.str (T [120]))) (sCons (sVal (.int 1)) sNil)))) := by kernel_rfl
theorem den_law_plain : denSs S_law_plain 60 ⟨defScope st_law_plain, fun _ => true, 4, false, true⟩ (defBody st_law_plain) = M_law_plain := by kernel_rfl
def lamsc_19 : Scope := (lamAt 0 (lamsOf (defBody st_law))).1
def lambd_19 : Expr := (lamAt 0 (lamsOf (defBody st_law))).2
def lamsc_20 : Scope := (lamAt 1 (lamsOf (defBody st_law))).1
def lambd_20 : Expr := (lamAt 1 (lamsOf (defBody st_law))).2
def M_law_s1 : SS := (sAsg (sBin (dIx pc_kc) (sVar 1) (sCall F_law_roll (sCons (sVar 2) (sCons (sVal (.int 5)) sNil)))) (gName' 3))
def M_law_s2 : SS := (sAsg (sMeth "join" (sVal (.str (T []))) (sCons (sComp false [12] (iRng1' (sBin (dIx pc_kc) (sVal (.kd 0)) (sVar 3))) (gName' 12) tYesE (sCall bStr (sCons (sCall F_law_roll (sCons (sVar 2) (sCons (sVal (.int 10)) sNil))) sNil))) sNil)) (gName' 4))
def M_law_s3 : SS := (sAsg (sCall F_with_check (sCons (sVar 3) (sCons (sVar 4) sNil))) (gName' 5))
def M_law_s4 : SS := (sAsg (sComp false [24] (iRng2' (sVal (.int 2)) (sVal (.int 99))) (gName' 24) (tVal (sCall F_law_good (sCons (sBin dAdd (sBin dAdd (sBin dAdd (sVar 3) (sCall bStr (sCons (sBin dDiv (sVar 24) (sVal (.int 10))) sNil))) (sCall bStr (sCons (sBin dMod (sVar 24) (sVal (.int 10))) sNil))) (sVar 4)) sNil))) (sVar 24)) (gName' 6))
def M_law_t5 : SS := (sSeq (sRet (sVal (.bl false))) sNx)
def M_law_s6 : SS := (sIfS (tOr' (tVal (sBin (cmpF pc_kc .NotEq) (sCall bLen (sCons (sVar 6) sNil)) (sVal (.int 1)))) (tVal (sBin (cmpF pc_kc .NotEq) (sVar 5) (sBin dAdd (sBin dAdd (sBin dAdd (sVar 3) (sCall bStr (sCons (sBin dDiv (sBin (dIx pc_kc) (sVar 6) (sVal (.int 0))) (sVal (.int 10))) sNil))) (sCall bStr (sCons (sBin dMod (sBin (dIx pc_kc) (sVar 6) (sVal (.int 0))) (sVal (.int 10))) sNil))) (sVar 4))))) M_law_t5 sNx)
def M_law_t7 : SS := (sSeq (sRet (sVal (.bl false))) sNx)
def M_law_s8 : SS := (sIfS (tNot' (tVal (sCall F_is_good (sCons (sVar 5) sNil)))) M_law_t7 sNx)
def M_law_s9 : SS := (sAsg (sMeth "join" (sVal (.str (T []))) (sCons (sComp false [12] (iRng1' (sBin dAdd (sVal (.int 1)) (sCall F_law_roll (sCons (sVar 2) (sCons (sVal (.int 12)) sNil))))) (gName' 12) tYesE (sBin (dIx pc_kc) (sVal (.str (T [48, 49, 50, 51, 52, 53, 54, 55, 56, 57, 97, 98, 99, 120, 121, 122]))) (sCall F_law_roll (sCons (sVar 2) (sCons (sVal (.int 16)) sNil))))) sNil)) (gName' 7))
def M_law_t10 : SS := (sSeq (sRet (sVal (.bl false))) sNx)
def M_law_s11 : SS := (sIfS (tVal (sBin (cmpF pc_kc .NotEq) (sCall F_rest (sCons (sVar 7) sNil)) (sCall F_law_rest (sCons (sVar 7) sNil)))) M_law_t10 sNx)
def M_law_s12 : SS := (sAsg (sBin dAdd (sSlice false (sVar 5) pNone (pSome (sVal (.int 2)))) (sMeth "join" (sVal (.str (T []))) (sCons (sComp false [17] (iVal (sSlice false (sVar 5) (pSome (sVal (.int 2))) pNone)) (gName' 17) tYesE (sIf (tVal (sBin (cmpF pc_kc .Gt) (sCall F_law_roll (sCons (sVar 2) (sCons (sVal (.int 6)) sNil))) (sVal (.int 0)))) (sVar 17) (sCall bStr (sCons (sCall F_law_roll (sCons (sVar 2) (sCons (sVal (.int 10)) sNil))) sNil)))) sNil))) (gName' 8))
def M_law_t13 : SS := (sSeq (sRet (sVal (.bl false))) sNx)
def M_law_s14 : SS := (sIfS (tOr' (tVal (sBin (cmpF pc_kc .NotEq) (sCall F_is_good (sCons (sVar 8) sNil)) (sCall F_law_good (sCons (sVar 8) sNil)))) (tOr' (tVal (sCall F_is_good (sCons (sBin dAdd (sVar 5) (sVal (.str (T [48])))) sNil))) (tVal (sCall F_is_good (sCons (sSlice false (sVar 5) pNone (pSome (sUn dNeg (sVal (.int 1))))) sNil))))) M_law_t13 sNx)
def M_law_s15 : SS := (sAsg (sComp false [12] (iRng3' (sVal (.int 0)) (sCall bLen (sCons (sVar 5) sNil)) (sVal (.int 4))) (gName' 12) tYesE (sSlice false (sVar 5) (pSome (sVar 12)) (pSome (sBin dAdd (sVar 12) (sVal (.int 4)))))) (gName' 9))
def M_law_s16 : SS := (sAsg (sBin (dIx pc_kc) (sDictC false [(.inr (T [97, 116]), (.str (T [65, 84]))), (.inr (T [98, 101]), (.str (T [66, 69]))), (.inr (T [99, 104]), (.str (T [67, 72]))), (.inr (T [102, 105]), (.str (T [70, 73]))), (.inr (T [110, 111]), (.str (T [78, 79])))]) (sVar 3)) (gName' 10))
def M_law_t17 : SS := (sSeq (sRet (sVal (.bl false))) sNx)
def M_law_s18 : SS := (sIfS (tOr' (tVal (sBin (cmpF pc_kc .NotEq) (sCall F_parted (sCons (sVar 5) sNil)) (sMeth "join" (sVal (.str (T [32]))) (sCons (sVar 9) sNil)))) (tOr' (tVal (sBin (cmpF pc_kc .NotEq) (sCall F_read (sCons (sMeth "join" (sVal (.str (T [32]))) (sCons (sVar 9) sNil)) sNil)) (sVar 5))) (tOr' (tVal (sBin (cmpF pc_kc .NotEq) (sCall F_read (sCons (sBin dAdd (sVar 10) (sSlice false (sVar 5) (pSome (sVal (.int 2))) pNone)) sNil)) (sVar 5))) (tVal (sBin (cmpF pc_kc .NotEq) (sTold (T [78, 117, 109, 98, 101, 114, 69, 114, 114, 111, 114]) S_law.caught (fun lsc body => denE S_law 37 ((Scp.mk (defScope st_law) (fun _ => true) 4 false true).lamS lsc) body) (sVal (.clo lamsc_19 lambd_19))) (sIf (tVal (sCall F_law_good (sCons (sVar 8) sNil))) (sVar 8) (sVal (.str (T [78, 117, 109, 98, 101, 114, 69, 114, 114, 111, 114]))))))))) M_law_t17 sNx)
def M_law_s19 : SS := (sAsg (sLstE false sNil) (gName' 11))
def M_law_f20 : SS := (sSeq (sAsg (sBin dAdd (sVar 11) (sComp false [17] (iVal (sVal (.str (T [48, 49, 50, 51, 52, 53, 54, 55, 56, 57])))) (gName' 17) tYesE (sBin dAdd (sBin dAdd (sSlice false (sVar 8) pNone (pSome (sVar 12))) (sVar 17)) (sSlice false (sVar 8) (pSome (sBin dAdd (sVar 12) (sVal (.int 1)))) pNone)))) (gName' 11)) (sSeq (sAsg (sBin dAdd (sVar 11) (sComp false [25] (iVal (sLstE false (sCons (sVal (.int 0)) sNil))) (gName' 25) (tVal (sBin (cmpF pc_kc .Lt) (sBin dAdd (sVar 12) (sVal (.int 1))) (sCall bLen (sCons (sVar 8) sNil)))) (sBin dAdd (sBin dAdd (sBin dAdd (sSlice false (sVar 8) pNone (pSome (sVar 12))) (sBin (dIx pc_kc) (sVar 8) (sBin dAdd (sVar 12) (sVal (.int 1))))) (sBin (dIx pc_kc) (sVar 8) (sVar 12))) (sSlice false (sVar 8) (pSome (sBin dAdd (sVar 12) (sVal (.int 2)))) pNone)))) (gName' 11)) sNx))
def M_law_s21 : SS := (sForS (iRng2' (sVal (.int 2)) (sCall bLen (sCons (sVar 8) sNil))) (gName' 12) M_law_f20)
def M_law_s22 : SS := (sAsg (sCall bSortX (sCons (sCall (bDictX pc_kc) (sCons (sComp false [26] (iVal (sVar 11)) (gName' 26) (tAnd' (tVal (sBin (cmpF pc_kc .NotEq) (sVar 26) (sVar 8))) (tVal (sCall F_law_good (sCons (sVar 26) sNil)))) (sTupE (sCons (sVar 26) (sCons (sVal (.int 1)) sNil)))) sNil)) sNil)) (gName' 13))
def M_law_t23 : SS := (sSeq (sRet (sVal (.bl false))) sNx)
def M_law_s24 : SS := (sIfS (tOr' (tVal (sBin (cmpF pc_kc .NotEq) (sCall bListS (sCons (sCall F_slips_of (sCons (sVar 8) sNil)) sNil)) (sVar 13))) (tVal (sBin (cmpF pc_kc .NotEq) (sComp false [26] (iVal (sCall F_slips_of (sCons (sVar 5) sNil))) (gName' 26) (tVal (sBin (cmpF pc_kc .Eq) (sSlice false (sVar 26) (pSome (sVal (.int 2))) (pSome (sVal (.int 4)))) (sSlice false (sVar 5) (pSome (sVal (.int 2))) (pSome (sVal (.int 4)))))) (sVar 26)) (sLstE false sNil)))) M_law_t23 sNx)
def M_law_s25 : SS := (sAsg (sCall bSortX (sCons (sCall (bDictX pc_kc) (sCons (sComp false [12] (iRng1' (sCall F_law_roll (sCons (sVar 2) (sCons (sVal (.int 3)) sNil)))) (gName' 12) tYesE (sTupE (sCons (sBin dAdd (sVal (.int 2)) (sCall F_law_roll (sCons (sVar 2) (sCons (sBin dSub (sCall bLen (sCons (sVar 5) sNil)) (sVal (.int 2))) sNil)))) (sCons (sVal (.int 1)) sNil)))) sNil)) sNil)) (gName' 14))
def M_law_s26 : SS := (sAsg (sMeth "join" (sVal (.str (T []))) (sCons (sComp false [12, 17] (iEnum (sVar 5)) (gTup' [gName' 12, gName' 17]) tYesE (sIf (tVal (sBin (cmpF pc_kc .In) (sVar 12) (sVar 14))) (sVal (.str (T [63]))) (sVar 17))) sNil)) (gName' 15))
def M_law_s27 : SS := (sAsg (sLstE false (sCons (sVal (.str (T []))) sNil)) (gName' 16))
def M_law_f29 : SS := (sSeq (sAsg (sBin dAdd (sVar 20) (sComp false [26] (iVal (sIf (tVal (sBin (cmpF pc_kc .Eq) (sVar 17) (sVal (.str (T [63]))))) (sVal (.str (T [48, 49, 50, 51, 52, 53, 54, 55, 56, 57]))) (sVar 17))) (gName' 26) tYesE (sBin dAdd (sVar 21) (sVar 26)))) (gName' 20)) sNx)
def M_law_f28 : SS := (sSeq (sAsg (sLstE false sNil) (gName' 20)) (sSeq (sForS (iVal (sVar 16)) (gName' 21) M_law_f29) (sSeq (sAsg (sVar 20) (gName' 16)) sNx)))
def M_law_s30 : SS := (sForS (iVal (sVar 15)) (gName' 17) M_law_f28)
def M_law_t31 : SS := (sSeq (sRet (sVal (.bl false))) sNx)
def M_law_s32 : SS := (sIfS (tOr' (tVal (sBin (cmpF pc_kc .NotEq) (sCall bListS (sCons (sCall F_missing (sCons (sVar 15) sNil)) sNil)) (sCall bSortX (sCons (sComp false [26] (iVal (sVar 16)) (gName' 26) (tVal (sCall F_law_good (sCons (sVar 26) sNil))) (sVar 26)) sNil)))) (tVal (sBin (cmpF pc_kc .NotIn) (sVar 5) (sCall F_missing (sCons (sVar 15) sNil))))) M_law_t31 sNx)
def M_law_s33 : SS := (sAsg (sTupE (sCons (sMeth "join" (sVal (.str (T []))) (sCons (sComp false [12] (iRng1' (sCall F_law_roll (sCons (sVar 2) (sCons (sVal (.int 8)) sNil)))) (gName' 12) tYesE (sCall bStr (sCons (sCall F_law_roll (sCons (sVar 2) (sCons (sVal (.int 10)) sNil))) sNil))) sNil)) (sCons (sCall F_law_roll (sCons (sVar 2) (sCons (sVal (.int 100000)) sNil))) sNil))) (gTup' [gName' 22, gName' 23]))
def M_law_s34 : SS := (sAsg (sBin dSub (sBin dSub (sBin (dIx pc_kc) (sVal (.kd 0)) (sVar 3)) (sCall bLen (sCons (sVar 22) sNil))) (sCall bLen (sCons (sCall bStr (sCons (sVar 23) sNil)) sNil))) (gName' 18))
def M_law_s35 : SS := (sAsg (sTold (T [78, 117, 109, 98, 101, 114, 69, 114, 114, 111, 114]) S_law.caught (fun lsc body => denE S_law 30 ((Scp.mk (defScope st_law) (fun _ => true) 4 false true).lamS lsc) body) (sVal (.clo lamsc_20 lambd_20))) (gName' 19))
def M_law_t36 : SS := (sSeq (sRet (sVal (.bl false))) sNx)
def M_law_s37 : SS := (sIfS (tVal (sBin (cmpF pc_kc .NotEq) (sBin (cmpF pc_kc .Eq) (sVar 19) (sVal (.str (T [78, 117, 109, 98, 101, 114, 69, 114, 114, 111, 114])))) (sBin (cmpF pc_kc .Lt) (sVar 18) (sVal (.int 0))))) M_law_t36 sNx)
def M_law_t38 : SS := (sSeq (sRet (sVal (.bl false))) sNx)
def M_law_s39 : SS := (sIfS (tAnd' (tVal (sBin (cmpF pc_kc .GtE) (sVar 18) (sVal (.int 0)))) (tOr' (tVal (sBin (cmpF pc_kc .NotEq) (sSlice false (sVar 19) (pSome (sVal (.int 4))) pNone) (sBin dAdd (sBin dAdd (sVar 22) (sBin dMul (sVal (.str (T [48]))) (sVar 18))) (sCall bStr (sCons (sVar 23) sNil))))) (tNot' (tVal (sCall F_law_good (sCons (sVar 19) sNil)))))) M_law_t38 sNx)
def M_law_f0 : SS := (sSeq M_law_s1 (sSeq M_law_s2 (sSeq M_law_s3 (sSeq M_law_s4 (sSeq M_law_s6 (sSeq M_law_s8 (sSeq M_law_s9 (sSeq M_law_s11 (sSeq M_law_s12 (sSeq M_law_s14 (sSeq M_law_s15 (sSeq M_law_s16 (sSeq M_law_s18 (sSeq M_law_s19 (sSeq M_law_s21 (sSeq M_law_s22 (sSeq M_law_s24 (sSeq M_law_s25 (sSeq M_law_s26 (sSeq M_law_s27 (sSeq M_law_s30 (sSeq M_law_s32 (sSeq M_law_s33 (sSeq M_law_s34 (sSeq M_law_s35 (sSeq M_law_s37 (sSeq M_law_s39 sNx)))))))))))))))))))))))))))
def M_law : SS := (sSeq (sAsg (sLstE false (sCons (sVal (.str (T [97, 116]))) (sCons (sVal (.str (T [98, 101]))) (sCons (sVal (.str (T [99, 104]))) (sCons (sVal (.str (T [102, 105]))) (sCons (sVal (.str (T [110, 111]))) sNil)))))) (gName' 1)) (sSeq (sForS (iVal (sCall F_law_rounds (sCons (sVar 0) (sCons (sVal (.int 1)) sNil)))) (gName' 2) M_law_f0) (sSeq (sRet (sCall F_law_plain sNil)) sNx)))
theorem run_19 : denE S_law 37 ((Scp.mk (defScope st_law) (fun _ => true) 4 false true).lamS lamsc_19) lambd_19 = (sCall F_read (sCons (sVar 8) sNil)) := by kernel_rfl
theorem run_20 : denE S_law 30 ((Scp.mk (defScope st_law) (fun _ => true) 4 false true).lamS lamsc_20) lambd_20 = (sCall F_serial (sCons (sVar 3) (sCons (sVar 22) (sCons (sVar 23) sNil)))) := by kernel_rfl
theorem den_law : denSs S_law 60 ⟨defScope st_law, fun _ => true, 4, false, true⟩ (defBody st_law) = M_law := by kernel_rfl
end K03

namespace K03
open L2 PyProof.Rows PySem.Spec PySem Bk

/-! ## What is reckoned, in plain lists -/
def isD (c : Nat) : Bool := decide (48 ≤ c) && decide (c ≤ 57)
theorem isD_iff {c : Nat} : isD c = true ↔ 48 ≤ c ∧ c ≤ 57 := by simp [isD]
theorem mem_dig {c : Nat} : c ∈ [48, 49, 50, 51, 52, 53, 54, 55, 56, 57] ↔ 48 ≤ c ∧ c ≤ 57 := by
  simp only [List.mem_cons, List.not_mem_nil, or_false]
  omega
theorem dec_dig (c : Nat) : decide (c ∈ [48, 49, 50, 51, 52, 53, 54, 55, 56, 57]) = isD c := by
  rw [Bool.eq_iff_iff, decide_eq_true_eq, mem_dig, isD_iff]
def plc (c : Nat) : Option Nat := if 48 ≤ c ∧ c ≤ 57 then some (c - 48) else if 97 ≤ c ∧ c ≤ 122 then some (c - 87) else none
abbrev sig36 : List Nat := [48, 49, 50, 51, 52, 53, 54, 55, 56, 57, 97, 98, 99, 100, 101, 102, 103, 104, 105, 106, 107, 108, 109, 110, 111, 112, 113, 114, 115, 116, 117, 118, 119, 120, 121, 122]
abbrev low26 : List Nat := [97, 98, 99, 100, 101, 102, 103, 104, 105, 106, 107, 108, 109, 110, 111, 112, 113, 114, 115, 116, 117, 118, 119, 120, 121, 122]
abbrev up26 : List Nat := [65, 66, 67, 68, 69, 70, 71, 72, 73, 74, 75, 76, 77, 78, 79, 80, 81, 82, 83, 84, 85, 86, 87, 88, 89, 90]
theorem find36 (c : Nat) : (if c ∈ sig36 then ((sig36.idxOf c : Nat) : Int) else -1) = (match plc c with | some p => (p : Int) | none => -1) := by
  by_cases h : c < 123
  · have : ∀ c, c < 123 → (if c ∈ sig36 then ((sig36.idxOf c : Nat) : Int) else -1) = (match plc c with | some p => (p : Int) | none => -1) := by decide +kernel
    exact this c h
  · have h1 : c ∉ sig36 := by
      simp only [sig36, List.mem_cons, List.not_mem_nil, or_false]
      omega
    have h2 : plc c = none := by unfold plc; rw [if_neg (by omega), if_neg (by omega)]
    rw [if_neg h1, h2]
theorem findUp (c : Nat) : (if c ∈ up26 then ((up26.idxOf c : Nat) : Int) else -1) = if 65 ≤ c ∧ c ≤ 90 then ((c - 65 : Nat) : Int) else -1 := by
  by_cases h : c < 91
  · have : ∀ c, c < 91 → (if c ∈ up26 then ((up26.idxOf c : Nat) : Int) else -1) = if 65 ≤ c ∧ c ≤ 90 then ((c - 65 : Nat) : Int) else -1 := by decide +kernel
    exact this c h
  · have h1 : c ∉ up26 := by
      simp only [up26, List.mem_cons, List.not_mem_nil, or_false]
      omega
    rw [if_neg h1, if_neg (by omega)]
theorem low_mem {c : Nat} : c ∈ low26 ↔ 97 ≤ c ∧ c ≤ 122 := by
  simp only [low26, List.mem_cons, List.not_mem_nil, or_false]
  omega
theorem low_idx {c : Nat} (h : 97 ≤ c ∧ c ≤ 122) : low26.idxOf c = c - 97 := by
  have : ∀ c, c < 123 → 97 ≤ c → low26.idxOf c = c - 97 := by decide +kernel
  exact this c (by omega) h.1
theorem low_at {k : Nat} (h : k < 26) : low26[k]? = some (97 + k) := by
  have : ∀ k, k < 26 → low26[k]? = some (97 + k) := by decide +kernel
  exact this k h
def wid (p : Nat) : Nat := if p < 10 then 10 else 100
def restF (v : Nat) : List Nat → Option Nat
  | [] => some v
  | c :: r => match plc c with
    | some p => restF ((v * wid p + p) % 97) r
    | none => none
def valF (v : Nat) : List Nat → Option Nat
  | [] => some v
  | c :: r => match plc c with
    | some p => valF (v * wid p + p) r
    | none => none
theorem rest_val : ∀ (l : List Nat) (v : Nat), restF (v % 97) l = (valF v l).map (· % 97)
  | [], _ => rfl
  | c :: r, v => by
    unfold restF valF
    cases plc c with
    | none => rfl
    | some p =>
      simp only
      have e : (v % 97 * wid p + p) % 97 = (v * wid p + p) % 97 := by
        unfold wid
        split <;> omega
      rw [e]
      exact rest_val r _
theorem rest0 (l : List Nat) : restF 0 l = (valF 0 l).map (· % 97) := rest_val l 0
theorem val_cons {v c : Nat} {r : List Nat} : valF v (c :: r) = (match plc c with
    | some p => valF (v * wid p + p) r
    | none => none) := rfl
theorem val_app : ∀ (a b : List Nat) (v : Nat), valF v (a ++ b) = (valF v a).bind fun w => valF w b
  | [], _, _ => rfl
  | c :: a, b, v => by
    rw [List.cons_append, val_cons, val_cons]
    cases plc c with
    | none => rfl
    | some p => exact val_app a b _
/-- the number of a row of figures, behind v -/
def dv (v : Nat) (l : List Nat) : Nat := l.foldl (fun acc c => acc * 10 + (c - 48)) v
theorem dv_app (v : Nat) (a b : List Nat) : dv v (a ++ b) = dv (dv v a) b := by
  unfold dv
  rw [List.foldl_append]
theorem dv_cons (v c : Nat) (l : List Nat) : dv v (c :: l) = dv (v * 10 + (c - 48)) l := by
  unfold dv
  rw [List.foldl_cons]
theorem dv_nil (v : Nat) : dv v [] = v := rfl
theorem val_dig : ∀ (l : List Nat) (v : Nat), l.all isD = true → valF v l = some (dv v l)
  | [], _, _ => rfl
  | c :: l, v, h => by
    rw [List.all_cons, Bool.and_eq_true, isD_iff] at h
    have e : plc c = some (c - 48) := by unfold plc; rw [if_pos h.1]
    have e2 : wid (c - 48) = 10 := by unfold wid; rw [if_pos (by omega)]
    unfold valF
    rw [e]
    simp only [e2]
    rw [val_dig l _ h.2, dv_cons]
theorem dv_cancel : ∀ (l : List Nat) (u v : Nat), dv u l % 97 = dv v l % 97 → u % 97 = v % 97
  | [], _, _, h => h
  | c :: l, u, v, h => by
    rw [dv_cons, dv_cons] at h
    have := dv_cancel l (u * 10 + (c - 48)) (v * 10 + (c - 48)) h
    omega
theorem dv2 {l : List Nat} (h : l.length = 2) (hd : l.all isD = true) : dv 0 l ≤ 99 := by
  match l, h with
  | [a, b], _ =>
    simp only [List.all_cons, List.all_nil, Bool.and_true, Bool.and_eq_true, isD_iff] at hd
    show (0 * 10 + (a - 48)) * 10 + (b - 48) ≤ 99
    omega
def sizeL (l : List Nat) : Option Nat := if l = [97, 116] then some 16 else if l = [98, 101] then some 12 else if l = [99, 104] then some 17 else if l = [102, 105] then some 14 else if l = [110, 111] then some 11 else none
/-- the land's own value -/
def landV (l : List Nat) : Nat := (plc (l.getD 0 0)).getD 0 * 100 + (plc (l.getD 1 0)).getD 0
theorem size_cases {l : List Nat} {n : Nat} (h : sizeL l = some n) : (l = [97, 116] ∧ n = 16) ∨ (l = [98, 101] ∧ n = 12) ∨ (l = [99, 104] ∧ n = 17) ∨ (l = [102, 105] ∧ n = 14) ∨ (l = [110, 111] ∧ n = 11) := by
  unfold sizeL at h
  split at h
  · cases h; exact .inl ⟨‹_›, rfl⟩
  · split at h
    · cases h; exact .inr (.inl ⟨‹_›, rfl⟩)
    · split at h
      · cases h; exact .inr (.inr (.inl ⟨‹_›, rfl⟩))
      · split at h
        · cases h; exact .inr (.inr (.inr (.inl ⟨‹_›, rfl⟩)))
        · split at h
          · cases h; exact .inr (.inr (.inr (.inr ⟨‹_›, rfl⟩)))
          · cases h
theorem size_b {l : List Nat} {n : Nat} (h : sizeL l = some n) : l.length = 2 ∧ 11 ≤ n ∧ n ≤ 17 := by
  rcases size_cases h with ⟨rfl, rfl⟩ | ⟨rfl, rfl⟩ | ⟨rfl, rfl⟩ | ⟨rfl, rfl⟩ | ⟨rfl, rfl⟩ <;> decide
theorem val_land {l : List Nat} {n : Nat} (h : sizeL l = some n) (v : Nat) : valF v l = some (v * 10000 + landV l) := by
  rcases size_cases h with ⟨rfl, rfl⟩ | ⟨rfl, rfl⟩ | ⟨rfl, rfl⟩ | ⟨rfl, rfl⟩ | ⟨rfl, rfl⟩ <;>
    (simp [valF, plc, wid, landV]; omega)
/-- is a number good: land, check, figures -/
def good (l : List Nat) : Bool := match sizeL (l.take 2) with
  | none => false
  | some n => decide (l.length = n + 4) && ((l.drop 2).all isD && (decide (2 ≤ dv 0 ((l.drop 2).take 2)) && (decide (dv 0 ((l.drop 2).take 2) ≤ 98) && decide (restF 0 (l.drop 4 ++ l.take 2 ++ (l.drop 2).take 2) = some 1))))
/-- .. put together from its parts -/
theorem good_parts {land chk fig : List Nat} {n : Nat} (h : sizeL land = some n) (hc : chk.length = 2) (hf : fig.length = n) (h1 : chk.all isD = true) (h2 : fig.all isD = true) :
    good (land ++ (chk ++ fig)) = (decide (2 ≤ dv 0 chk) && (decide (dv 0 chk ≤ 98) && decide (((dv 0 fig * 10000 + landV land) * 100 + dv 0 chk) % 97 = 1))) := by
  have hl := (size_b h).1
  have e1 : (land ++ (chk ++ fig)).take 2 = land := by rw [← hl]; exact List.take_left
  have e2 : (land ++ (chk ++ fig)).drop 2 = chk ++ fig := by rw [← hl]; exact List.drop_left
  have e3 : (chk ++ fig).take 2 = chk := by rw [← hc]; exact List.take_left
  have e4 : (land ++ (chk ++ fig)).drop 4 = fig := by
    have : (land ++ (chk ++ fig)).drop 4 = ((land ++ (chk ++ fig)).drop 2).drop 2 := by rw [List.drop_drop]
    rw [this, e2, ← hc]
    exact List.drop_left
  have ev : restF 0 (fig ++ land ++ chk) = some (((dv 0 fig * 10000 + landV land) * 100 + dv 0 chk) % 97) := by
    rw [rest0, val_app, val_app, val_dig fig 0 h2, Option.bind_some, val_land h, Option.bind_some, val_dig chk _ h1, Option.map_some]
    refine congrArg (fun x => some (x % 97)) ?_
    match chk, hc with
    | [a, b], _ =>
      show ((dv 0 fig * 10000 + landV land) * 10 + (a - 48)) * 10 + (b - 48) = (dv 0 fig * 10000 + landV land) * 100 + ((0 * 10 + (a - 48)) * 10 + (b - 48))
      omega
  unfold good
  rw [e1, h]
  simp only [e2, e3, e4, ev, List.all_append, h1, h2, Bool.and_self, Bool.true_and, Option.some.injEq, List.length_append, hl, hc, hf]
  have : decide (2 + (2 + n) = n + 4) = true := by simp; omega
  rw [this, Bool.true_and]
theorem good_split {l : List Nat} (h : good l = true) : ∃ land chk fig n, l = land ++ (chk ++ fig) ∧ sizeL land = some n ∧ chk.length = 2 ∧ fig.length = n ∧ chk.all isD = true ∧ fig.all isD = true := by
  unfold good at h
  split at h
  · cases h
  · rename_i n e
    simp only [Bool.and_eq_true, decide_eq_true_eq] at h
    obtain ⟨h0, h1, _⟩ := h
    have hb := size_b e
    refine ⟨l.take 2, (l.drop 2).take 2, l.drop 4, n, ?_, e, ?_, ?_, ?_, ?_⟩
    · have : l.drop 4 = (l.drop 2).drop 2 := by rw [List.drop_drop]
      rw [this, List.take_append_drop, List.take_append_drop]
    · rw [List.length_take, List.length_drop]; omega
    · rw [List.length_drop]; omega
    · rw [List.all_eq_true] at h1 ⊢
      exact fun x hx => h1 x (List.mem_of_mem_take hx)
    · have : l.drop 4 = (l.drop 2).drop 2 := by rw [List.drop_drop]
      rw [this]
      rw [List.all_eq_true] at h1 ⊢
      exact fun x hx => h1 x (List.mem_of_mem_drop hx)
/-- two figures -/
def two (k : Nat) : List Nat := [48 + k / 10, 48 + k % 10]
theorem two_ok {k : Nat} (h : k ≤ 99) : (two k).all isD = true ∧ dv 0 (two k) = k ∧ (two k).length = 2 := by
  refine ⟨?_, ?_, rfl⟩
  · simp only [two, List.all_cons, List.all_nil, Bool.and_true, Bool.and_eq_true, isD_iff]
    omega
  · show (0 * 10 + (48 + k / 10 - 48)) * 10 + (48 + k % 10 - 48) = k
    omega
/-- the one check that fits -/
def chkOf (land fig : List Nat) : Nat := 98 - (dv 0 fig * 10000 + landV land) * 100 % 97
theorem chk_b (land fig : List Nat) : 2 ≤ chkOf land fig ∧ chkOf land fig ≤ 98 := by
  unfold chkOf
  omega
theorem chk_fits {land fig : List Nat} {n : Nat} (h : sizeL land = some n) (hf : fig.length = n) (h2 : fig.all isD = true) {c : Nat} (h3 : 2 ≤ c) (h4 : c ≤ 98) : good (land ++ (two c ++ fig)) = decide (c = chkOf land fig) := by
  obtain ⟨t1, t2, t3⟩ := two_ok (k := c) (by omega)
  rw [good_parts h t3 hf t1 h2, t2, decide_eq_true h3, decide_eq_true h4, Bool.true_and, Bool.true_and]
  unfold chkOf
  rw [Bool.eq_iff_iff, decide_eq_true_eq, decide_eq_true_eq]
  omega
def numOf (land fig : List Nat) : List Nat := land ++ (two (chkOf land fig) ++ fig)
theorem num_good {land fig : List Nat} {n : Nat} (h : sizeL land = some n) (hf : fig.length = n) (h2 : fig.all isD = true) : good (numOf land fig) = true := by
  have hb := chk_b land fig
  unfold numOf
  rw [chk_fits h hf h2 hb.1 hb.2]
  simp
/-- same land, same check, both good: the figures weigh the same -/
theorem same_weight {land chk f1 f2 : List Nat} {n : Nat} (h : sizeL land = some n) (hc : chk.length = 2) (l1 : f1.length = n) (l2 : f2.length = n) (d0 : chk.all isD = true) (d1 : f1.all isD = true) (d2 : f2.all isD = true)
    (g1 : good (land ++ (chk ++ f1)) = true) (g2 : good (land ++ (chk ++ f2)) = true) : dv 0 f1 % 97 = dv 0 f2 % 97 := by
  rw [good_parts h hc l1 d0 d1] at g1
  rw [good_parts h hc l2 d0 d2] at g2
  simp only [Bool.and_eq_true, decide_eq_true_eq] at g1 g2
  omega
theorem one_diff {p s : List Nat} {a b : Nat} (ha : isD a = true) (hb : isD b = true) (h : dv 0 (p ++ a :: s) % 97 = dv 0 (p ++ b :: s) % 97) : a = b := by
  rw [dv_app, dv_app, dv_cons, dv_cons] at h
  have := dv_cancel s (dv 0 p * 10 + (a - 48)) (dv 0 p * 10 + (b - 48)) h
  rw [isD_iff] at ha hb
  omega
theorem swap_diff {p s : List Nat} {a b : Nat} (ha : isD a = true) (hb : isD b = true) (h : dv 0 (p ++ a :: b :: s) % 97 = dv 0 (p ++ b :: a :: s) % 97) : a = b := by
  rw [dv_app, dv_app, dv_cons, dv_cons, dv_cons, dv_cons] at h
  have := dv_cancel s ((dv 0 p * 10 + (a - 48)) * 10 + (b - 48)) ((dv 0 p * 10 + (b - 48)) * 10 + (a - 48)) h
  rw [isD_iff] at ha hb
  omega
end K03

namespace K03
open L2 PyProof.Rows PySem.Spec PySem Bk

/-! ## Slips, and what is missing, in plain lists -/
abbrev dig : List Nat := [48, 49, 50, 51, 52, 53, 54, 55, 56, 57]
def put1 (l : List Nat) (p d : Nat) : List Nat := l.take p ++ [d] ++ l.drop (p + 1)
def swap1 (l : List Nat) (p : Nat) : List Nat := l.take p ++ [l.getD (p + 1) 0] ++ [l.getD p 0] ++ l.drop (p + 2)
def nearAt (l : List Nat) (p : Nat) : List (List Nat) := (dig.map fun d => put1 l p d) ++ (if p + 1 < l.length then [swap1 l p] else [])
def near (l : List Nat) : List (List Nat) := (List.range (l.length - 2)).flatMap fun i => nearAt l (i + 2)
def addU (acc : List (List Nat)) (x : List Nat) : List (List Nat) := if x ∈ acc then acc else acc ++ [x]
theorem addU_filter (p : List Nat → Bool) : ∀ (xs acc : List (List Nat)), (xs.foldl addU acc).filter p = (xs.filter p).foldl addU (acc.filter p)
  | [], acc => rfl
  | x :: xs, acc => by
    rw [List.foldl_cons, addU_filter p xs, List.filter_cons]
    cases hp : p x with
    | true =>
      rw [if_pos rfl, List.foldl_cons]
      refine congrArg (fun z => (xs.filter p).foldl addU z) ?_
      unfold addU
      by_cases hm : x ∈ acc
      · rw [if_pos hm, if_pos (List.mem_filter.mpr ⟨hm, hp⟩)]
      · rw [if_neg hm, if_neg (fun h => hm (List.mem_filter.mp h).1), List.filter_append]
        simp [hp]
    | false =>
      rw [if_neg Bool.false_ne_true]
      refine congrArg (fun z => (xs.filter p).foldl addU z) ?_
      unfold addU
      by_cases hm : x ∈ acc
      · rw [if_pos hm]
      · rw [if_neg hm, List.filter_append]
        simp [hp]
theorem addU_mem {y : List Nat} : ∀ (xs acc : List (List Nat)), y ∈ xs.foldl addU acc → y ∈ acc ∨ y ∈ xs
  | [], acc, h => .inl h
  | x :: xs, acc, h => by
    rcases addU_mem xs _ h with h | h
    · unfold addU at h
      split at h
      · exact .inl h
      · rcases List.mem_append.mp h with h | h
        · exact .inl h
        · exact .inr (by rw [List.mem_singleton.mp h]; exact List.mem_cons_self ..)
    · exact .inr (List.mem_cons_of_mem _ h)
theorem addU_len : ∀ (xs acc : List (List Nat)), (xs.foldl addU acc).length ≤ acc.length + xs.length
  | [], acc => Nat.le_refl _
  | x :: xs, acc => by
    have h := addU_len xs (addU acc x)
    have : (addU acc x).length ≤ acc.length + 1 := by
      unfold addU
      split
      · omega
      · rw [List.length_append]; exact Nat.le_refl _
    rw [List.foldl_cons, List.length_cons]
    omega
theorem nearAt_len (l : List Nat) (p : Nat) : (nearAt l p).length ≤ 11 := by
  unfold nearAt
  rw [List.length_append, List.length_map]
  split <;> simp
theorem near_len (l : List Nat) : (near l).length ≤ 11 * l.length := by
  unfold near
  have : ∀ xs : List Nat, (xs.flatMap fun i => nearAt l (i + 2)).length ≤ 11 * xs.length := by
    intro xs
    induction xs with
    | nil => exact Nat.le_refl _
    | cons x xs ih =>
      rw [List.flatMap_cons, List.length_append, List.length_cons]
      have := nearAt_len l (x + 2)
      omega
  have h := this (List.range (l.length - 2))
  rw [List.length_range] at h
  omega
theorem put1_len {l : List Nat} {p d : Nat} (h : p < l.length) : (put1 l p d).length = l.length := by
  unfold put1
  simp
  omega
theorem swap1_len {l : List Nat} {p : Nat} (h : p + 1 < l.length) : (swap1 l p).length = l.length := by
  unfold swap1
  simp
  omega
theorem near_mem {l o : List Nat} (h : o ∈ near l) : ∃ p, 2 ≤ p ∧ p < l.length ∧ ((∃ d, 48 ≤ d ∧ d ≤ 57 ∧ o = put1 l p d) ∨ (p + 1 < l.length ∧ o = swap1 l p)) := by
  unfold near at h
  obtain ⟨i, hi, h⟩ := List.mem_flatMap.mp h
  rw [List.mem_range] at hi
  refine ⟨i + 2, by omega, by omega, ?_⟩
  unfold nearAt at h
  rcases List.mem_append.mp h with h | h
  · obtain ⟨d, hd, e⟩ := List.mem_map.mp h
    rw [mem_dig] at hd
    exact .inl ⟨d, hd.1, hd.2, e.symm⟩
  · split at h
    · exact .inr ⟨‹_›, List.mem_singleton.mp h⟩
    · cases h
theorem near_mem_len {l o : List Nat} (h : o ∈ near l) : o.length = l.length := by
  obtain ⟨p, h1, h2, ⟨d, _, _, rfl⟩ | ⟨h3, rfl⟩⟩ := near_mem h
  · exact put1_len h2
  · exact swap1_len h3
/-- no slip of a good number has its check and is good -/
theorem no_slip {l o : List Nat} (g : good l = true) (ho : o ∈ near l) (ne : o ≠ l) (go : good o = true) : (o.drop 2).take 2 ≠ (l.drop 2).take 2 := by
  intro he
  apply ne
  obtain ⟨land, chk, fig, n, rfl, hs, hc, hf, d1, d2⟩ := good_split g
  have hl := (size_b hs).1
  match land, hl, chk, hc with
  | [x, y], _, [a, b], _ =>
    have e0 : [x, y] ++ ([a, b] ++ fig) = x :: y :: a :: b :: fig := rfl
    rw [e0] at g ho he
    show o = x :: y :: a :: b :: fig
    obtain ⟨p, h1, h2, hp⟩ := near_mem ho
    rw [List.length_cons, List.length_cons, List.length_cons, List.length_cons] at h2
    have hda : isD a = true ∧ isD b = true := by simpa using d1
    match p, h1 with
    | 2, _ =>
      rcases hp with ⟨d, _, _, rfl⟩ | ⟨_, rfl⟩
      · have e : d = a := by simpa [put1] using he
        simp [put1, e]
      · have e : b = a ∧ a = b := by simpa [swap1] using he
        simp [swap1, e.1]
    | 3, _ =>
      rcases hp with ⟨d, _, _, rfl⟩ | ⟨h3, rfl⟩
      · have e : d = b := by simpa [put1] using he
        simp [put1, e]
      · match fig, h3 with
        | f :: fs, _ =>
          have e : f = b := by simpa [swap1] using he
          simp [swap1, e]
    | q + 4, _ =>
      have hq : q < fig.length := by omega
      have eq : fig = fig.take q ++ fig[q] :: fig.drop (q + 1) := by
        rw [← List.drop_eq_getElem_cons hq, List.take_append_drop]
      have all2 := d2
      rw [eq, List.all_append, List.all_cons, Bool.and_eq_true, Bool.and_eq_true] at all2
      rcases hp with ⟨d, hd1, hd2, rfl⟩ | ⟨h3, rfl⟩
      · have eo : put1 (x :: y :: a :: b :: fig) (q + 4) d = x :: y :: a :: b :: (fig.take q ++ d :: fig.drop (q + 1)) := by
          simp [put1]
        rw [eo] at go ⊢
        have hd : isD d = true := isD_iff.mpr ⟨hd1, hd2⟩
        have w := same_weight (land := [x, y]) (chk := [a, b]) (f1 := fig) (f2 := fig.take q ++ d :: fig.drop (q + 1)) hs rfl hf (by simp; omega) d1 d2 (by simp [all2.1, all2.2.2, hd]) g go
        rw [eq] at w
        have := one_diff (p := fig.take q) (s := fig.drop (q + 1)) all2.2.1 hd (by simpa [List.take_append, List.drop_append] using w)
        rw [← this, ← eq]
      · rw [List.length_cons, List.length_cons, List.length_cons, List.length_cons] at h3
        have hq1 : q + 1 < fig.length := by omega
        have eq2 : fig = fig.take q ++ fig[q] :: fig[q + 1] :: fig.drop (q + 2) := by
          rw [← List.drop_eq_getElem_cons hq1, ← List.drop_eq_getElem_cons hq, List.take_append_drop]
        have eo : swap1 (x :: y :: a :: b :: fig) (q + 4) = x :: y :: a :: b :: (fig.take q ++ fig[q + 1] :: fig[q] :: fig.drop (q + 2)) := by
          simp [swap1, List.getD, hq, hq1]
        rw [eo] at go ⊢
        have all3 := d2
        rw [eq2, List.all_append, List.all_cons, List.all_cons, Bool.and_eq_true, Bool.and_eq_true, Bool.and_eq_true] at all3
        have w := same_weight (land := [x, y]) (chk := [a, b]) (f1 := fig) (f2 := fig.take q ++ fig[q + 1] :: fig[q] :: fig.drop (q + 2)) hs rfl hf (by simp; omega) d1 d2 (by
          rw [List.all_append, List.all_cons, List.all_cons, all3.1, all3.2.1, all3.2.2.1, all3.2.2.2]; rfl) g go
        have w2 : dv 0 (fig.take q ++ fig[q] :: fig[q + 1] :: fig.drop (q + 2)) % 97 = dv 0 (fig.take q ++ fig[q + 1] :: fig[q] :: fig.drop (q + 2)) % 97 := by rw [← eq2]; exact w
        have := swap_diff (p := fig.take q) (s := fig.drop (q + 2)) all3.2.1 all3.2.2.1 w2
        rw [this] at eq2 ⊢
        rw [← eq2]
/-! what is missing -/
def opts (c : Nat) : List Nat := if c = 63 then dig else [c]
def rowStep (rs : List (List Nat)) (c : Nat) : List (List Nat) := rs.flatMap fun r => (opts c).map fun d => r ++ [d]
def rowsOf (l : List Nat) : List (List Nat) := l.foldl rowStep [[]]
theorem rows_mem : ∀ (h m : List Nat) (rs : List (List Nat)) (r : List Nat), m.length = h.length → (∀ i (h1 : i < m.length) (h2 : i < h.length), m[i] ∈ opts h[i]) → r ∈ rs → r ++ m ∈ h.foldl rowStep rs
  | [], [], rs, r, _, _, hr => by simpa using hr
  | c :: h, d :: m, rs, r, hl, hm, hr => by
    rw [List.foldl_cons]
    have e : r ++ d :: m = (r ++ [d]) ++ m := by simp
    rw [e]
    refine rows_mem h m _ _ (by simpa using hl) (fun i h1 h2 => ?_) ?_
    · have := hm (i + 1) (by simpa using h1) (by simpa using h2)
      simpa using this
    · unfold rowStep
      rw [List.mem_flatMap]
      exact ⟨r, hr, List.mem_map.mpr ⟨d, by have := hm 0 (by simp) (by simp); simpa using this, rfl⟩⟩
theorem opts_len (c : Nat) : (opts c).length ≤ if c = 63 then 10 else 1 := by
  unfold opts
  split <;> simp
theorem rowStep_len (rs : List (List Nat)) (c : Nat) : (rowStep rs c).length ≤ rs.length * (if c = 63 then 10 else 1) := by
  unfold rowStep
  induction rs with
  | nil => simp
  | cons r rs ih =>
    rw [List.flatMap_cons, List.length_append, List.length_map, List.length_cons]
    have := opts_len c
    rw [Nat.add_mul]
    omega
theorem rowStep_each {rs : List (List Nat)} {c k : Nat} (h : ∀ r ∈ rs, r.length = k) : ∀ r ∈ rowStep rs c, r.length = k + 1 := by
  intro r hr
  unfold rowStep at hr
  obtain ⟨r0, h0, h1⟩ := List.mem_flatMap.mp hr
  obtain ⟨d, _, rfl⟩ := List.mem_map.mp h1
  simp [h r0 h0]
end K03

namespace K03
open L2 PyProof.Rows PySem.Spec PySem Bk

/-! ## What each def computes, in plain lists -/
theorem fm (a b : Nat) : (a : Int).fmod (b : Int) = ((a % b : Nat) : Int) := by
  rw [Int.fmod_eq_emod_of_nonneg _ (by omega)]
  rfl
theorem fd (a b : Nat) : (a : Int).fdiv (b : Int) = ((a / b : Nat) : Int) := by
  rw [Int.fdiv_eq_ediv_of_nonneg _ (by omega)]
  rfl
theorem mf10 {i : Int} : mulFit i 10 = true := by simp [mulFit]
theorem mf100 {i : Int} : mulFit i 100 = true := by simp [mulFit]
theorem gn {i : Nat} {d : D} {ρ : Lc} (h : i < ρ.length) : gName' i d ρ = some (ρ.set i (some d)) := by
  unfold gName'
  rw [if_pos h]
section
variable {st : Store}
theorem mFind36 (c : Nat) : mFind (T [48, 49, 50, 51, 52, 53, 54, 55, 56, 57, 97, 98, 99, 100, 101, 102, 103, 104, 105, 106, 107, 108, 109, 110, 111, 112, 113, 114, 115, 116, 117, 118, 119, 120, 121, 122]) [.str (T [c])] st = .ok (.int (match plc c with | some p => (p : Int) | none => -1)) st := by
  rw [mFind_T]
  exact congrArg (fun z => R.ok (D.int z) st) (find36 c)
theorem rest_step (t : D) (v c : Nat) (o : Option D) : M_rest_f1 [some t, some (.int v), some (.str (T [c])), o] st = (match plc c with
    | some p => .nx [some t, some (.int ((v * wid p + p) % 97 : Nat)), some (.str (T [c])), some (.int p)] st
    | none => .exn 1 st) := by
  cases hp : plc c with
  | none => simp [M_rest_f1, M_rest_t2, mFind36, hp, gAsg_name]
  | some p =>
    have hn : ¬ ((p : Int) < 0) := by omega
    by_cases h : p < 10
    · have h1 : (p : Int) < 10 := by omega
      have h2 : ((v : Int) * 10 + (p : Int)).fmod 97 = ((v * wid p + p) % 97 : Nat) := by
        have := fm (v * wid p + p) 97
        rw [← this, wid, if_pos h]
        norm_cast
      simp [M_rest_f1, M_rest_t2, mFind36, hp, gAsg_name, hn, h1, dMul_int, mf10, dMod_int, h2]
    · have h1 : ¬ ((p : Int) < 10) := by omega
      have h2 : ((v : Int) * 100 + (p : Int)).fmod 97 = ((v * wid p + p) % 97 : Nat) := by
        have := fm (v * wid p + p) 97
        rw [← this, wid, if_neg h]
        norm_cast
      simp [M_rest_f1, M_rest_t2, mFind36, hp, gAsg_name, hn, h1, dMul_int, mf100, dMod_int, h2]
theorem rest_loop (t : D) : ∀ (l : List Nat) (v : Nat) (o2 o3 : Option D),
    (∀ w, restF v l = some w → ∃ o2' o3', forL (gName' 2) M_rest_f1 (l.map fun c => D.str (T [c])) [some t, some (.int v), o2, o3] st = .nx [some t, some (.int w), o2', o3'] st) ∧
    (restF v l = none → forL (gName' 2) M_rest_f1 (l.map fun c => D.str (T [c])) [some t, some (.int v), o2, o3] st = .exn 1 st)
  | [], v, o2, o3 => ⟨fun w h => ⟨o2, o3, by cases h; rfl⟩, fun h => by cases h⟩
  | c :: l, v, o2, o3 => by
    have e1 : forL (gName' 2) M_rest_f1 ((c :: l).map fun c => D.str (T [c])) [some t, some (.int v), o2, o3] st = (match plc c with
        | some p => forL (gName' 2) M_rest_f1 (l.map fun c => D.str (T [c])) [some t, some (.int ((v * wid p + p) % 97 : Nat)), some (.str (T [c])), some (.int p)] st
        | none => .exn 1 st) := by
      rw [List.map_cons, forL_cons (gn (by simp : 2 < [some t, some (D.int v), o2, o3].length))]
      have e := rest_step (st := st) t v c o3
      have e2 : List.set [some t, some (D.int v), o2, o3] 2 (some (D.str (T [c]))) = [some t, some (D.int v), some (D.str (T [c])), o3] := rfl
      rw [e2, e]
      cases plc c <;> rfl
    have e2 : restF v (c :: l) = (match plc c with
      | some p => restF ((v * wid p + p) % 97) l
      | none => none) := rfl
    rw [e1, e2]
    cases hp : plc c with
    | none => exact ⟨fun w h => (nomatch h), fun _ => rfl⟩
    | some p => exact rest_loop t l _ _ _
def restR (l : List Nat) (st : Store) : R D := if l = [] then .exn 1 st else match restF 0 l with
  | some w => .ok (.int (w : Nat)) st
  | none => .exn 1 st
theorem f_rest (l : List Nat) : F_rest [.str (T l)] st = restR l st := by
  have hr : M_rest ([.str (T l)].map some ++ List.replicate (S_rest.N.length - 1) none) st = (if l = [] then .exn 1 st else match restF 0 l with
      | some w => .rt (.int (w : Nat)) st
      | none => .exn 1 st) := by
    show M_rest [some (.str (T l)), none, none, none] st = _
    by_cases h : l = []
    · subst h
      simp [M_rest, M_rest_t0, T_beq]
    · have h1 : decide (l = []) = false := decide_eq_false h
      have hf := rest_loop (st := st) (.str (T l)) l 0 none none
      rw [if_neg h]
      unfold M_rest
      have e0 : (sIfS (tVal (sBin (cmpF pc_kc .Eq) (sVar 0) (sVal (.str (T []))))) M_rest_t0 sNx) [some (.str (T l)), none, none, none] st = .nx [some (.str (T l)), none, none, none] st := by
        simp [T_beq, h1, h]
      have e1 : (sAsg (sVal (.int 0)) (gName' 1)) [some (.str (T l)), none, none, none] st = .nx [some (.str (T l)), some (.int 0), none, none] st := by
        simp [gAsg_name]
      rw [seq_nx e0, seq_nx e1]
      have e2 : (sForS (iVal (sVar 0)) (gName' 2) M_rest_f1) [some (.str (T l)), some (.int 0), none, none] st = forL (gName' 2) M_rest_f1 (l.map fun c => D.str (T [c])) [some (.str (T l)), some (.int (0 : Nat)), none, none] st := for_wkL (by simp)
      rw [sSeq_e, e2]
      cases hw : restF 0 l with
      | none => rw [hf.2 hw]; rfl
      | some w =>
        obtain ⟨o2, o3, e⟩ := hf.1 w hw
        rw [e]
        rfl
  have e := semF_eq (esc := false) (np := 1) den_rest rfl hr
  unfold F_rest restR
  rw [e]
  by_cases h : l = []
  · simp [h]
  · simp only [if_neg h]
    cases restF 0 l <;> simp
end
end K03

namespace K03
open L2 PyProof.Rows PySem.Spec PySem Bk
section
variable {st : Store}
/-! the law's rest -/
def txt (c : Nat) : List Nat := if isD c = true then [c] else TL.numL (c - 87)
theorem num_two {p : Nat} (h : 10 ≤ p) (h2 : p < 100) : TL.numL p = two p := by
  rw [TL.numL_step h, TL.numL_lt (by omega)]
  rfl
theorem txt_dv : ∀ (l : List Nat) (v w : Nat), valF v l = some w → dv v ((l.map txt).flatten) = w
  | [], v, w, h => by cases h; rfl
  | c :: l, v, w, h => by
    rw [val_cons] at h
    rw [List.map_cons, List.flatten_cons, dv_app]
    cases hp : plc c with
    | none => rw [hp] at h; cases h
    | some p =>
      rw [hp] at h
      have e : dv v (txt c) = v * wid p + p := by
        unfold plc at hp
        split at hp
        · cases hp
          unfold txt wid
          rw [if_pos (isD_iff.mpr ‹_›), if_pos (by omega)]
          rfl
        · split at hp
          · cases hp
            unfold txt wid
            rw [if_neg (fun z => by rw [isD_iff] at z; omega), if_neg (by omega), num_two (by omega) (by omega)]
            show (v * 10 + (48 + (c - 87) / 10 - 48)) * 10 + (48 + (c - 87) % 10 - 48) = _
            omega
          · cases hp
      rw [e]
      exact txt_dv l _ _ h
theorem txt_ok {c p : Nat} (h : plc c = some p) : (txt c).all (fun c => decide (48 ≤ c) && decide (c ≤ 57)) = true ∧ txt c ≠ [] ∧ (txt c).length ≤ 2 := by
  unfold plc at h
  split at h
  · unfold txt
    have hd := isD_iff.mpr ‹48 ≤ c ∧ c ≤ 57›
    rw [if_pos hd]
    refine ⟨?_, by simp, by simp⟩
    rw [List.all_cons, List.all_nil, Bool.and_true]
    exact hd
  · split at h
    · unfold txt
      rw [if_neg (fun z => by rw [isD_iff] at z; omega), num_two (by omega) (by omega)]
      exact ⟨(two_ok (k := c - 87) (by omega)).1, by simp [two], by simp [two]⟩
    · cases h
theorem val_each : ∀ {l : List Nat} {v w : Nat}, valF v l = some w → ∀ c ∈ l, ∃ p, plc c = some p
  | [], _, _, _, c, hc => by cases hc
  | a :: l, v, w, h, c, hc => by
    rw [val_cons] at h
    cases hp : plc a with
    | none => rw [hp] at h; cases h
    | some p =>
      rw [hp] at h
      rcases List.mem_cons.mp hc with rfl | hc
      · exact ⟨p, hp⟩
      · exact val_each h c hc
theorem flat_ok {l : List Nat} (h : ∀ c ∈ l, ∃ p, plc c = some p) : ((l.map txt).flatten).all (fun c => decide (48 ≤ c) && decide (c ≤ 57)) = true ∧ ((l.map txt).map (·.length)).sum ≤ 2 * l.length ∧ (l.map txt).flatten.length ≤ 2 * l.length := by
  induction l with
  | nil => simp
  | cons c l ih =>
    obtain ⟨p, hp⟩ := h c (List.mem_cons_self ..)
    have i := ih fun x hx => h x (List.mem_cons_of_mem _ hx)
    have t := txt_ok hp
    simp only [List.map_cons, List.flatten_cons, List.all_append, t.1, i.1, Bool.and_self, List.sum_cons, List.length_append, List.length_cons, true_and]
    have := t.2.2
    omega
theorem law_elt {t : D} {c p : Nat} (h : plc c = some p) : (sIf (tVal (sBin (cmpF pc_kc .In) (sVar 2) (sVal (.str (T [48, 49, 50, 51, 52, 53, 54, 55, 56, 57]))))) (sVar 2) (sCall bStr (sCons (sBin dAdd (sVal (.int 10)) (sMeth "index" (sVal (.str (T [97, 98, 99, 100, 101, 102, 103, 104, 105, 106, 107, 108, 109, 110, 111, 112, 113, 114, 115, 116, 117, 118, 119, 120, 121, 122]))) (sCons (sVar 2) sNil))) sNil))) [some t, none, some (D.str (T [c]))] st = .ok (.str (T (txt c))) st := by
  by_cases hd : isD c = true
  · have e : txt c = [c] := by unfold txt; rw [if_pos hd]
    rw [e]
    simp only [sIf_e, tVal_e, sBin_e, sVar_0, sVar_s, sVal_e, R.bind_ok, cmp_inS, in_T, dec_dig, hd, rTr_bl, rIf_t]
  · have e : txt c = TL.numL (c - 87) := by unfold txt; rw [if_neg hd]
    have hc : 97 ≤ c ∧ c ≤ 122 := by
      unfold plc at h
      split at h
      · exact absurd (isD_iff.mpr ‹48 ≤ c ∧ c ≤ 57›) hd
      · split at h
        · exact ‹97 ≤ c ∧ c ≤ 122›
        · cases h
    have hb : (10 : Int) + ((c - 97 : Nat) : Int) = ((c - 87 : Nat) : Int) := by omega
    rw [e]
    have hix : mIndex (T [97, 98, 99, 100, 101, 102, 103, 104, 105, 106, 107, 108, 109, 110, 111, 112, 113, 114, 115, 116, 117, 118, 119, 120, 121, 122]) [.str (T [c])] st = .ok (.int (c - 97 : Nat)) st := by
      rw [mIndex_T (low_mem.mpr hc)]
      exact congrArg (fun z => R.ok (D.int ((z : Nat) : Int)) st) (low_idx hc)
    have h2 : bStr [D.int ((c - 87 : Nat) : Int)] st = .ok (.str (T (TL.numL (c - 87)))) st := bStr_num (by
      have : (2 : Nat) ^ 7 ≤ 2 ^ 1900 := Nat.pow_le_pow_right (by omega) (by omega)
      omega)
    simp only [sIf_e, tVal_e, sBin_e, sVar_0, sVar_s, sVal_e, R.bind_ok, cmp_inS, in_T, dec_dig, Bool.eq_false_iff.mpr hd, rTr_bl, rIf_f, sCall_e, sCons_e, sNil_e, sMeth_e, mo_index, mtRun_some, hix, dAdd_int, hb, h2, Bool.false_eq_true]
theorem f_law_rest {l : List Nat} {w : Nat} (h : valF 0 l = some w) (hne : l ≠ []) (hl : l.length ≤ 300) : F_law_rest [.str (T l)] st = .ok (.int (w % 97 : Nat)) st := by
  have hv := val_each h
  obtain ⟨f1, f2, f3⟩ := flat_ok hv
  have hr : M_law_rest ([.str (T l)].map some ++ List.replicate (S_law_rest.N.length - 1) none) st = .rt (.int (w % 97 : Nat)) st := by
    show M_law_rest [some (.str (T l)), none, none] st = _
    unfold M_law_rest
    have ec := comp_wkL (st := st) (ρ := [some (.str (T l)), none, none]) (m := false) (own := [2]) (it := iVal (sVar 0)) (by simp) (compL_all (gt := gName' 2) (st := st) (ρ0 := wipeD [some (.str (T l)), none, none] [2]) (fun c => D.str (T [c])) (fun c => D.str (T (txt c))) l fun c hc => ⟨[some (.str (T l)), none, some (.str (T [c]))], rfl, by
      obtain ⟨p, hp⟩ := hv c hc
      exact law_elt hp⟩)
    rw [mkB_f (by rw [List.length_map]; unfold big; omega)] at ec
    have ej : mJoin (T []) [.lst (l.map fun c => D.str (T (txt c)))] st = .ok (.str (T (TL.joinL [] (l.map txt)))) st := by
      have := mJoin_T (st := st) (z := []) (xs := l.map txt) (by rw [List.length_nil, Nat.mul_zero, Nat.add_zero]; unfold big; omega)
      rw [List.map_map] at this
      exact this
    rw [joinL_nil] at ej
    have hne2 : (l.map txt).flatten ≠ [] := by
      match l, hne, hv with
      | c :: l, _, hv =>
        obtain ⟨p, hp⟩ := hv c (List.mem_cons_self ..)
        have := (txt_ok hp).2.1
        simp [this]
    have ei : bInt [.str (T (l.map txt).flatten)] st = .ok (.int (w : Nat)) st := by
      rw [bInt_T f1 hne2 (by omega)]
      exact congrArg (fun z => R.ok (D.int ((z : Nat) : Int)) st) (txt_dv l 0 w h)
    have e97 : dMod (.int (w : Nat)) (.int 97) st = .ok (.int (w % 97 : Nat)) st := by
      rw [dMod_int (by decide)]
      exact congrArg (fun z => R.ok (D.int z) st) (fm w 97)
    simp only [sSeq_e, sAsg_e, sMeth_e, sVal_e, R.bind_ok, mo_join, sCons_e, ec, sNil_e, mtRun_some, ej, sE2_ok]
    rw [gAsg_name (by simp)]
    simp only [List.set_cons_succ, List.set_cons_zero, then_nx, sRet_e, sBin_e, sCall_e, sCons_e, sVar_0, sVar_s, R.bind_ok, sNil_e, ei, sVal_e, e97, sE2_ok, then_rt]
  have e := semF_eq (esc := false) (np := 1) den_law_rest rfl hr
  unfold F_law_rest
  rw [e]
  simp
/-! lands -/
theorem kc_ne : (pc_kc 0).isEmpty = false := rfl
theorem kc_look (l : List Nat) : (pc_kc 0).lookup (T l) = (sizeL l).map fun n => (n : Int) := by
  have e : pc_kc 0 = [(T [97, 116], 16), (T [98, 101], 12), (T [99, 104], 17), (T [102, 105], 14), (T [110, 111], 11)] := rfl
  rw [e]
  unfold sizeL
  simp only [List.lookup, T_beq]
  by_cases h1 : l = [97, 116]
  · simp [h1]
  · by_cases h2 : l = [98, 101]
    · simp [h2]
    · by_cases h3 : l = [99, 104]
      · simp [h3]
      · by_cases h4 : l = [102, 105]
        · simp [h4]
        · by_cases h5 : l = [110, 111]
          · simp [h5]
          · simp [h1, h2, h3, h4, h5]
theorem ni_lands (l : List Nat) : cmpF pc_kc .NotIn (.str (T l)) (.kd 0) st = .ok (.bl (!(sizeL l).isSome)) st := by
  rw [cmp_niK kc_ne, kc_look]
  cases sizeL l <;> rfl
theorem ix_lands {l : List Nat} {n : Nat} (h : sizeL l = some n) : dIx pc_kc (.kd 0) (.str (T l)) st = .ok (.int (n : Nat)) st := by
  show (match (pc_kc 0).lookup (T l) with | some v => R.ok (D.int v) st | none => R.stuck) = _
  rw [kc_look, h]
  rfl
theorem any_nd {ρ : Lc} {it : SI} {i : Nat} {l : List Nat} {own : List Nat} (h : it ρ st = .ok (wkL (l.map fun c => D.str (T [c]))) st) (hi : i < (wipeD ρ own).length) :
    sAny true own it (gName' i) tYesE (sBin (cmpF pc_kc .NotIn) (sVar i) (sVal (.str (T [48, 49, 50, 51, 52, 53, 54, 55, 56, 57])))) ρ st = .ok (.bl (!l.all isD)) st := by
  rw [any_wkL (fun c => !isD c) h fun c hc => ⟨_, gn hi, ?_⟩]
  · have : l.any (fun c => !isD c) = !l.all isD := by
      rw [List.not_all_eq_any_not]
    rw [this]
  · have e : sVar i ((wipeD ρ own).set i (some (.str (T [c])))) st = .ok (.str (T [c])) st := sVar_get (by
      rw [List.getElem?_set_self hi])
    simp only [sBin_e, e, R.bind_ok, sVal_e, cmp_niS, in_T, dec_dig]
end
end K03

namespace K03
open L2 PyProof.Rows PySem.Spec PySem Bk
section
variable {st : Store}
theorem small_pow {n : Nat} (h : n < 1000000) : n < 2 ^ 1900 := Nat.lt_of_lt_of_le h (Nat.le_trans (by decide : 1000000 ≤ 2 ^ 20) (Nat.pow_le_pow_right (by omega) (by omega)))
theorem str_dig {n : Nat} (h : n < 10) : bStr [.int (n : Int)] st = .ok (.str (T [48 + n])) st := by
  rw [bStr_num (small_pow (by omega)), TL.numL_lt h]
theorem div10 (n : Nat) : dDiv (.int (n : Int)) (.int 10) st = .ok (.int ((n / 10 : Nat) : Int)) st := by
  rw [dDiv_int (by decide)]
  exact congrArg (fun z => R.ok (D.int z) st) (fd n 10)
theorem mod10 (n : Nat) : dMod (.int (n : Int)) (.int 10) st = .ok (.int ((n % 10 : Nat) : Int)) st := by
  rw [dMod_int (by decide)]
  exact congrArg (fun z => R.ok (D.int z) st) (fm n 10)
theorem f_with_check {land fig : List Nat} (h1 : land.length ≤ 100) (h2 : fig.length ≤ 300) : F_with_check [.str (T land), .str (T fig)] st = (match sizeL land with
    | some n => if fig.length = n ∧ fig.all isD = true then .ok (.str (T (numOf land fig))) st else .exn 1 st
    | none => .exn 1 st) := by
  have b1 : fig.length ≤ big := by unfold big; omega
  have any1 := any_nd (st := st) (ρ := [some (.str (T land)), some (.str (T fig)), none, none]) (it := iVal (sVar 1)) (i := 3) (l := fig) (own := [3]) (by simp) (by simp [wipeD])
  have hr : M_with_check ([.str (T land), .str (T fig)].map some ++ List.replicate (S_with_check.N.length - 2) none) st = (match sizeL land with
    | some n => if fig.length = n ∧ fig.all isD = true then .rt (.str (T (numOf land fig))) st else .exn 1 st
    | none => .exn 1 st) := by
    show M_with_check [some (.str (T land)), some (.str (T fig)), none, none] st = _
    unfold M_with_check
    cases hs : sizeL land with
    | none => simp [M_with_check_t0, ni_lands, hs]
    | some n =>
      simp only
      by_cases hl : fig.length = n
      · by_cases hd : fig.all isD = true
        · rw [if_pos ⟨hl, hd⟩]
          have hv : valF 0 (fig ++ land ++ [48, 48]) = some ((dv 0 fig * 10000 + landV land) * 100) := by
            rw [val_app, val_app, val_dig fig 0 hd, Option.bind_some, val_land hs, Option.bind_some]
            show some (((dv 0 fig * 10000 + landV land) * 10 + 0) * 10 + 0) = _
            refine congrArg some ?_
            omega
          have hrest : F_rest [.str (T (fig ++ land ++ [48, 48]))] st = .ok (.int (((dv 0 fig * 10000 + landV land) * 100 % 97 : Nat) : Int)) st := by
            rw [f_rest]
            unfold restR
            rw [if_neg (by simp), rest0, hv]
            rfl
          have hsub : (98 : Int) - (((dv 0 fig * 10000 + landV land) * 100 % 97 : Nat) : Int) = ((chkOf land fig : Nat) : Int) := by
            unfold chkOf
            omega
          have hb := chk_b land fig
          have e0 : (sIfS (tOr' (tVal (sBin (cmpF pc_kc .NotIn) (sVar 0) (sVal (.kd 0)))) (tOr' (tVal (sBin (cmpF pc_kc .NotEq) (sCall bLen (sCons (sVar 1) sNil)) (sBin (dIx pc_kc) (sVal (.kd 0)) (sVar 0)))) (tVal (sAny true [3] (iVal (sVar 1)) (gName' 3) tYesE (sBin (cmpF pc_kc .NotIn) (sVar 3) (sVal (.str (T [48, 49, 50, 51, 52, 53, 54, 55, 56, 57])))))))) M_with_check_t0 sNx) [some (.str (T land)), some (.str (T fig)), none, none] st = .nx [some (.str (T land)), some (.str (T fig)), none, none] st := by
            simp [ni_lands, hs, bLen_T b1, ix_lands hs, hl, any1, hd]
          have e1 : (sAsg (sBin dSub (sVal (.int 98)) (sCall F_rest (sCons (sBin dAdd (sBin dAdd (sVar 1) (sVar 0)) (sVal (.str (T [48, 48])))) sNil))) (gName' 2)) [some (.str (T land)), some (.str (T fig)), none, none] st = .nx [some (.str (T land)), some (.str (T fig)), some (.int ((chkOf land fig : Nat) : Int)), none] st := by
            have a1 : dAdd (.str (T fig)) (.str (T land)) st = .ok (.str (T (fig ++ land))) st := dAdd_T (by unfold big; omega)
            have a2 : dAdd (.str (T (fig ++ land))) (.str (T [48, 48])) st = .ok (.str (T (fig ++ land ++ [48, 48]))) st := dAdd_T (by rw [List.length_append]; simp; unfold big; omega)
            simp only [sAsg_e, sBin_e, sVal_e, sVar_0, sVar_s, R.bind_ok, sCall_e, sCons_e, sNil_e, a1, a2, hrest, dSub_int, hsub, sE2_ok]
            rw [gAsg_name (by simp)]
            rfl
          rw [seq_nx e0, seq_nx e1]
          have s1 : bStr [.int ((chkOf land fig / 10 : Nat) : Int)] st = .ok (.str (T [48 + chkOf land fig / 10])) st := str_dig (by omega)
          have s2 : bStr [.int ((chkOf land fig % 10 : Nat) : Int)] st = .ok (.str (T [48 + chkOf land fig % 10])) st := str_dig (by omega)
          have a1 : dAdd (.str (T land)) (.str (T [48 + chkOf land fig / 10])) st = .ok (.str (T (land ++ [48 + chkOf land fig / 10]))) st := dAdd_T (by simp; unfold big; omega)
          have a2 : dAdd (.str (T (land ++ [48 + chkOf land fig / 10]))) (.str (T [48 + chkOf land fig % 10])) st = .ok (.str (T (land ++ [48 + chkOf land fig / 10] ++ [48 + chkOf land fig % 10]))) st := dAdd_T (by simp; unfold big; omega)
          have a3 : dAdd (.str (T (land ++ [48 + chkOf land fig / 10] ++ [48 + chkOf land fig % 10]))) (.str (T fig)) st = .ok (.str (T (land ++ [48 + chkOf land fig / 10] ++ [48 + chkOf land fig % 10] ++ fig))) st := dAdd_T (by simp; unfold big; omega)
          have en : land ++ [48 + chkOf land fig / 10] ++ [48 + chkOf land fig % 10] ++ fig = numOf land fig := by simp [numOf, two]
          simp only [sSeq_e, sRet_e, sBin_e, sVar_0, sVar_s, R.bind_ok, sCall_e, sCons_e, sNil_e, sVal_e, div10, mod10, s1, s2, a1, a2, a3, en, sE2_ok, then_rt]
        · rw [if_neg (fun z => hd z.2)]
          simp [M_with_check_t0, ni_lands, hs, bLen_T b1, ix_lands hs, hl, any1, Bool.eq_false_iff.mpr hd]
      · rw [if_neg (fun z => hl z.1)]
        have : ((fig.length : Int) == (n : Int)) = false := by
          rw [beq_eq_false_iff_ne]
          omega
        simp [M_with_check_t0, ni_lands, hs, bLen_T b1, ix_lands hs, this, hl]
  have e := semF_eq (esc := false) (np := 2) den_with_check rfl hr
  unfold F_with_check
  rw [e]
  cases sizeL land with
  | none => simp
  | some n =>
    simp only
    by_cases h : fig.length = n ∧ fig.all isD = true
    · rw [if_pos h, if_pos h]; simp
    · rw [if_neg h, if_neg h]; simp
theorem g3 {a b c : D} {o1 o2 o3 : Option D} {x : Option D} {r : Lc} : gAsg (gTup' [gName' 1, gName' 2, gName' 3]) (.tup [a, b, c]) (x :: o1 :: o2 :: o3 :: r) st = .nx (x :: some a :: some b :: some c :: r) st := by
  simp [gAsg, gTup', asTup, gAll, gName']
/-- what both reckon when land, length and figures are right -/
theorem good_if {l : List Nat} {n : Nat} (hs : sizeL (l.take 2) = some n) (hl : l.length = n + 4) (hd : (l.drop 2).all isD = true) :
    ∃ w, valF 0 (l.drop 4 ++ l.take 2 ++ (l.drop 2).take 2) = some w ∧ good l = (decide (2 ≤ dv 0 ((l.drop 2).take 2)) && (decide (dv 0 ((l.drop 2).take 2) ≤ 98) && decide (w % 97 = 1))) := by
  have d1 : ((l.drop 2).take 2).all isD = true := by
    rw [List.all_eq_true] at hd ⊢
    exact fun x hx => hd x (List.mem_of_mem_take hx)
  have d2 : (l.drop 4).all isD = true := by
    have : l.drop 4 = (l.drop 2).drop 2 := by rw [List.drop_drop]
    rw [this]
    rw [List.all_eq_true] at hd ⊢
    exact fun x hx => hd x (List.mem_of_mem_drop hx)
  obtain ⟨w, hw⟩ : ∃ w, valF 0 (l.drop 4 ++ l.take 2 ++ (l.drop 2).take 2) = some w := by
    rw [val_app, val_app, val_dig _ 0 d2, Option.bind_some, val_land hs, Option.bind_some, val_dig _ _ d1]
    exact ⟨_, rfl⟩
  refine ⟨w, hw, ?_⟩
  unfold good
  rw [hs]
  simp only [hl, hd, decide_true, Bool.true_and, rest0, hw, Option.map_some, Option.some.injEq]
theorem f_is_good {l : List Nat} (h : l.length ≤ 300) : F_is_good [.str (T l)] st = .ok (.bl (good l)) st := by
  have b0 : l.length ≤ big := by unfold big; omega
  have b2 : (l.take 2).length ≤ 2 := by rw [List.length_take]; omega
  have b3 : (l.drop 4).length ≤ l.length := by rw [List.length_drop]; omega
  have b4 : ((l.drop 2).take 2).length ≤ 2 := by rw [List.length_take]; omega
  have hr : M_is_good ([.str (T l)].map some ++ List.replicate (S_is_good.N.length - 1) none) st = .rt (.bl (good l)) st := by
    show M_is_good [some (.str (T l)), none, none, none, none] st = _
    unfold M_is_good
    have e0 : (sAsg (sTupE (sCons (sSlice false (sVar 0) pNone (pSome (sVal (.int 2)))) (sCons (sSlice false (sVar 0) (pSome (sVal (.int 2))) (pSome (sVal (.int 4)))) (sCons (sSlice false (sVar 0) (pSome (sVal (.int 4))) pNone) sNil)))) (gTup' [gName' 1, gName' 2, gName' 3])) [some (.str (T l)), none, none, none, none] st
        = .nx [some (.str (T l)), some (.str (T (l.take 2))), some (.str (T ((l.drop 2).take 2))), some (.str (T (l.drop 4))), none] st := by
      have q1 := dSl_to (st := st) (a := l) (i := 2) (by omega) b0
      have q2 := dSl_mid (st := st) (a := l) (i := 2) (j := 4) (by omega) (by omega) b0
      have q3 := dSl_from (st := st) (a := l) (i := 4) (by omega) b0
      simp only [sAsg_e, sTupE_e, sCons_e, sSlice_e, sVar_0, R.bind_ok, pNone_e, pSome_e, sVal_e, rPt_int, q1, q2, q3, sNil_e, mkT_e (st := st) (ds := [D.str _, D.str _, D.str _]) (by show 3 ≤ big; decide), sE2_ok, g3]
      rfl
    rw [seq_nx e0]
    have ecat : (l.drop 2).take 2 ++ l.drop 4 = l.drop 2 := by
      have : l.drop 4 = (l.drop 2).drop 2 := by rw [List.drop_drop]
      rw [this, List.take_append_drop]
    have acat : dAdd (.str (T ((l.drop 2).take 2))) (.str (T (l.drop 4))) st = .ok (.str (T (l.drop 2))) st := by
      rw [dAdd_T (by unfold big; omega), ecat]
    have any1 := any_nd (st := st) (ρ := [some (.str (T l)), some (.str (T (l.take 2))), some (.str (T ((l.drop 2).take 2))), some (.str (T (l.drop 4))), none]) (it := iVal (sBin dAdd (sVar 2) (sVar 3))) (i := 4) (l := l.drop 2) (own := [4]) (by simp [acat]) (by simp [wipeD])
    have bl4 : bLen [.str (T (l.drop 4))] st = .ok (.int (l.drop 4).length) st := bLen_T (by unfold big; omega)
    cases hs : sizeL (l.take 2) with
    | none =>
      have hg : good l = false := by unfold good; rw [hs]
      simp [M_is_good_t0, ni_lands, hs, hg]
    | some n =>
      have hb := size_b hs
      have hl2 : 2 ≤ l.length := by have := hb.1; rw [List.length_take] at this; omega
      by_cases hl : l.length = n + 4
      · have hl4 : (l.drop 4).length = n := by rw [List.length_drop]; omega
        by_cases hd : (l.drop 2).all isD = true
        · obtain ⟨w, hw, hg⟩ := good_if hs hl hd
          have e1 : (sIfS (tOr' (tVal (sBin (cmpF pc_kc .NotIn) (sVar 1) (sVal (.kd 0)))) (tOr' (tVal (sBin (cmpF pc_kc .NotEq) (sCall bLen (sCons (sVar 3) sNil)) (sBin (dIx pc_kc) (sVal (.kd 0)) (sVar 1)))) (tVal (sAny true [4] (iVal (sBin dAdd (sVar 2) (sVar 3))) (gName' 4) tYesE (sBin (cmpF pc_kc .NotIn) (sVar 4) (sVal (.str (T [48, 49, 50, 51, 52, 53, 54, 55, 56, 57])))))))) M_is_good_t0 sNx) [some (.str (T l)), some (.str (T (l.take 2))), some (.str (T ((l.drop 2).take 2))), some (.str (T (l.drop 4))), none] st = .nx [some (.str (T l)), some (.str (T (l.take 2))), some (.str (T ((l.drop 2).take 2))), some (.str (T (l.drop 4))), none] st := by
            simp only [sIfS_e, tOr_e, tVal_e, sBin_e, sVar_0, sVar_s, R.bind_ok, sVal_e, ni_lands, hs, rTr_bl, Option.isSome_some, Bool.not_true, rOr_f, sCall_e, sCons_e, sNil_e, bl4, ix_lands hs, cmp_neI, hl4, beq_self_eq_true, any1, hd, rSt_f, sNx_e]
          rw [seq_nx e1]
          have d1 : ((l.drop 2).take 2).all isD = true := by
            rw [List.all_eq_true] at hd ⊢
            exact fun x hx => hd x (List.mem_of_mem_take hx)
          have hc2 : ((l.drop 2).take 2).length = 2 := by rw [List.length_take, List.length_drop]; omega
          have ei : bInt [.str (T ((l.drop 2).take 2))] st = .ok (.int (dv 0 ((l.drop 2).take 2) : Nat)) st := bInt_T d1 (by intro z; rw [z] at hc2; cases hc2) (by omega)
          have hrest : F_rest [.str (T (l.drop 4 ++ l.take 2 ++ (l.drop 2).take 2))] st = .ok (.int ((w % 97 : Nat) : Int)) st := by
            rw [f_rest]
            unfold restR
            rw [if_neg (by intro z; have := congrArg List.length z; rw [List.length_append, hc2] at this; simp at this), rest0, hw]
            rfl
          have a1 : dAdd (.str (T (l.drop 4))) (.str (T (l.take 2))) st = .ok (.str (T (l.drop 4 ++ l.take 2))) st := dAdd_T (by unfold big; omega)
          have a2 : dAdd (.str (T (l.drop 4 ++ l.take 2))) (.str (T ((l.drop 2).take 2))) st = .ok (.str (T (l.drop 4 ++ l.take 2 ++ (l.drop 2).take 2))) st := dAdd_T (by rw [List.length_append]; unfold big; omega)
          have c1 : decide ((2 : Int) ≤ ((dv 0 ((l.drop 2).take 2) : Nat) : Int)) = decide (2 ≤ dv 0 ((l.drop 2).take 2)) := by
            rw [decide_eq_decide]; omega
          have c2 : decide (((dv 0 ((l.drop 2).take 2) : Nat) : Int) ≤ (98 : Int)) = decide (dv 0 ((l.drop 2).take 2) ≤ 98) := by
            rw [decide_eq_decide]; omega
          have c3 : ((((w % 97 : Nat) : Int)) == (1 : Int)) = decide (w % 97 = 1) := by
            rw [Bool.eq_iff_iff, beq_iff_eq, decide_eq_true_eq]; omega
          simp only [sSeq_e, sRet_e, sAndT_e, sChain_e, sVal_e, R.bind_ok, sCall_e, sCons_e, sVar_0, sVar_s, sNil_e, ei, cmp_le, c1, c2, sBin_e, a1, a2, hrest, cmp_eqI, c3, hg]
          cases decide (2 ≤ dv 0 ((l.drop 2).take 2)) with
          | false => simp
          | true =>
            cases decide (dv 0 ((l.drop 2).take 2) ≤ 98) with
            | false => simp
            | true => simp only [rCh_t, R.bind_ok, rAndT_t, sE2_ok, then_rt, a1, a2, hrest, cmp_eqI, c3, Bool.true_and, sVal_e, sVar_0, sVar_s, sCons_e, sNil_e, cmp_le, c2]
        · have hg : good l = false := by unfold good; rw [hs]; simp [Bool.eq_false_iff.mpr hd]
          simp [M_is_good_t0, ni_lands, hs, hg, bl4, ix_lands hs, hl4, any1, Bool.eq_false_iff.mpr hd]
      · have hg : good l = false := by unfold good; rw [hs]; simp [hl]
        have hl4 : (((l.drop 4).length : Int) == (n : Int)) = false := by
          rw [beq_eq_false_iff_ne, List.length_drop]
          omega
        simp only [sSeq_e, sIfS_e, tOr_e, tVal_e, sBin_e, sVar_0, sVar_s, R.bind_ok, sVal_e, ni_lands, hs, rTr_bl, Option.isSome_some, Bool.not_true, rOr_f, sCall_e, sCons_e, sNil_e, bl4, ix_lands hs, cmp_neI, hl4, Bool.not_false, rOr_t, rSt_t, hg]
        simp [M_is_good_t0]
  have e := semF_eq (esc := false) (np := 1) den_is_good rfl hr
  unfold F_is_good
  rw [e]
  simp
end
end K03

namespace K03
open L2 PyProof.Rows PySem.Spec PySem Bk
section
variable {st : Store}
abbrev KV : List (Key × D) := [(.inr (T [97, 116]), .int 16), (.inr (T [98, 101]), .int 12), (.inr (T [99, 104]), .int 17), (.inr (T [102, 105]), .int 14), (.inr (T [110, 111]), .int 11)]
theorem inr_T {a b : List Nat} : ((Sum.inr (T a) : Key) = Sum.inr (T b)) = (a = b) := propext ⟨fun h => T_inj (Sum.inr.inj h), fun h => by rw [h]⟩
theorem KV_merge : mergeD [] KV = KV := by
  simp [mergeD, putD, KV, inr_T, T_eq]
theorem KV_look (l : List Nat) : look (mergeD [] KV) (.inr (T l)) = (sizeL l).map fun n => D.int (n : Nat) := by
  rw [KV_merge]
  unfold look sizeL
  simp only [KV, List.find?, inr_T]
  by_cases h1 : l = [97, 116]
  · simp [h1]
  · have h1' := Ne.symm h1
    by_cases h2 : l = [98, 101]
    · simp [h2]
    · have h2' := Ne.symm h2
      by_cases h3 : l = [99, 104]
      · simp [h3]
      · have h3' := Ne.symm h3
        by_cases h4 : l = [102, 105]
        · simp [h4]
        · have h4' := Ne.symm h4
          by_cases h5 : l = [110, 111]
          · simp [h5]
          · have h5' := Ne.symm h5
            simp [h1, h2, h3, h4, h5, h1', h2', h3', h4', h5']
theorem ni_dK {kc : Nat → List (Str × Int)} {x : Str} {kvs : List (Key × D)} : cmpF kc .NotIn (.str x) (.dK kvs) st = .ok (.bl (!(look kvs (.inr x)).isSome)) st := by
  have e : cmpF kc .NotIn = dIn kc true := rfl
  rw [e]
  unfold dIn
  have e : inN kc st (.str x) (.dK kvs) = some (look kvs (.inr x)).isSome := rfl
  rw [e]
  rfl
theorem ix_dK {kc : Nat → List (Str × Int)} {x : Str} {kvs : List (Key × D)} {d : D} (h : look kvs (.inr x) = some d) : dIx kc (.dK kvs) (.str x) st = .ok d st := by
  have e : dIx kc (.dK kvs) (.str x) st = (match look kvs (.inr x) with | some d => R.ok d st | none => R.stuck) := rfl
  rw [e, h]
theorem ni_KV (l : List Nat) : cmpF pc_kc .NotIn (.str (T l)) (.dK (mergeD [] KV)) st = .ok (.bl (!(sizeL l).isSome)) st := by
  rw [ni_dK, KV_look]
  cases sizeL l <;> rfl
theorem ix_KV {l : List Nat} {n : Nat} (h : sizeL l = some n) : dIx pc_kc (.dK (mergeD [] KV)) (.str (T l)) st = .ok (.int (n : Nat)) st := ix_dK (by rw [KV_look, h]; rfl)
theorem g23 {a b : D} {o1 o2 : Option D} {x y : Option D} {r : Lc} : gAsg (gTup' [gName' 2, gName' 3]) (.tup [a, b]) (x :: y :: o1 :: o2 :: r) st = .nx (x :: y :: some a :: some b :: r) st := by
  simp [gAsg, gTup', asTup, gAll, gName']
theorem f_law_good {l : List Nat} (h : l.length ≤ 300) : F_law_good [.str (T l)] st = .ok (.bl (good l)) st := by
  have b0 : l.length ≤ big := by unfold big; omega
  have b2 : (l.take 2).length ≤ 2 := by rw [List.length_take]; omega
  have b3 : (l.drop 2).length ≤ l.length := by rw [List.length_drop]; omega
  have b4 : ((l.drop 2).take 2).length ≤ 2 := by rw [List.length_take]; omega
  have b5 : (l.drop 4).length ≤ l.length := by rw [List.length_drop]; omega
  have e42 : (l.drop 2).drop 2 = l.drop 4 := by rw [List.drop_drop]
  have hr : M_law_good ([.str (T l)].map some ++ List.replicate (S_law_good.N.length - 1) none) st = .rt (.bl (good l)) st := by
    show M_law_good [some (.str (T l)), none, none, none, none] st = _
    unfold M_law_good
    have e0 : (sAsg (sDictC false KV) (gName' 1)) [some (.str (T l)), none, none, none, none] st = .nx [some (.str (T l)), some (.dK (mergeD [] KV)), none, none, none] st := by
      simp only [sAsg_e, sDictC_e, sE2_ok]
      rw [gAsg_name (by simp)]
      rfl
    rw [seq_nx e0]
    have e1 : (sAsg (sTupE (sCons (sSlice false (sVar 0) pNone (pSome (sVal (.int 2)))) (sCons (sSlice false (sVar 0) (pSome (sVal (.int 2))) pNone) sNil))) (gTup' [gName' 2, gName' 3])) [some (.str (T l)), some (.dK (mergeD [] KV)), none, none, none] st
        = .nx [some (.str (T l)), some (.dK (mergeD [] KV)), some (.str (T (l.take 2))), some (.str (T (l.drop 2))), none] st := by
      have q1 := dSl_to (st := st) (a := l) (i := 2) (by omega) b0
      have q3 := dSl_from (st := st) (a := l) (i := 2) (by omega) b0
      simp only [sAsg_e, sTupE_e, sCons_e, sSlice_e, sVar_0, R.bind_ok, pNone_e, pSome_e, sVal_e, rPt_int, q1, q3, sNil_e, mkT_e (st := st) (ds := [D.str _, D.str _]) (by show 2 ≤ big; decide), sE2_ok, g23]
      rfl
    rw [seq_nx e1]
    have bl : bLen [.str (T (l.drop 2))] st = .ok (.int (l.drop 2).length) st := bLen_T (by unfold big; omega)
    cases hs : sizeL (l.take 2) with
    | none =>
      have hg : good l = false := by unfold good; rw [hs]
      simp only [sSeq_e, sIfS_e, tOr_e, tVal_e, sBin_e, sVar_0, sVar_s, R.bind_ok, ni_KV, hs, rTr_bl, Option.isSome_none, Bool.not_false, rOr_t, rSt_t, hg]
      simp [M_law_good_t0]
    | some n =>
      have hb := size_b hs
      have hl2 : 2 ≤ l.length := by have := hb.1; rw [List.length_take] at this; omega
      have an : dAdd (.int (n : Nat)) (.int 2) st = .ok (.int ((n : Nat) + 2)) st := rfl
      by_cases hl : l.length = n + 4
      · have hl4 : (((l.drop 2).length : Int) == ((n : Int) + 2)) = true := by rw [beq_iff_eq, List.length_drop]; omega
        have e2 : (sIfS (tOr' (tVal (sBin (cmpF pc_kc .NotIn) (sVar 2) (sVar 1))) (tVal (sBin (cmpF pc_kc .NotEq) (sCall bLen (sCons (sVar 3) sNil)) (sBin dAdd (sBin (dIx pc_kc) (sVar 1) (sVar 2)) (sVal (.int 2)))))) M_law_good_t0 sNx) [some (.str (T l)), some (.dK (mergeD [] KV)), some (.str (T (l.take 2))), some (.str (T (l.drop 2))), none] st = .nx [some (.str (T l)), some (.dK (mergeD [] KV)), some (.str (T (l.take 2))), some (.str (T (l.drop 2))), none] st := by
          simp only [sIfS_e, tOr_e, tVal_e, sBin_e, sVar_0, sVar_s, R.bind_ok, sVal_e, ni_KV, hs, rTr_bl, Option.isSome_some, Bool.not_true, rOr_f, sCall_e, sCons_e, sNil_e, bl, ix_KV hs, an, cmp_neI, hl4, rSt_f, sNx_e]
        rw [seq_nx e2]
        have ec := comp_wkL (st := st) (ρ := [some (.str (T l)), some (.dK (mergeD [] KV)), some (.str (T (l.take 2))), some (.str (T (l.drop 2))), none]) (m := false) (own := [4]) (it := iVal (sVar 3)) (by simp only [iVal_e, sVar_0, sVar_s, R.bind_ok, dIter_T]) (compL_map (gt := gName' 4) (st := st) (test := tVal (sBin (cmpF pc_kc .NotIn) (sVar 4) (sVal (.str (T [48, 49, 50, 51, 52, 53, 54, 55, 56, 57]))))) (elt := sVar 4) (ρ0 := wipeD [some (.str (T l)), some (.dK (mergeD [] KV)), some (.str (T (l.take 2))), some (.str (T (l.drop 2))), none] [4]) (fun c => D.str (T [c])) (fun c => !isD c) (fun c => D.str (T [c])) (l.drop 2) fun c hc => ⟨[some (.str (T l)), some (.dK (mergeD [] KV)), some (.str (T (l.take 2))), some (.str (T (l.drop 2))), some (.str (T [c]))], rfl, by
          simp only [tVal_e, sBin_e, sVar_0, sVar_s, R.bind_ok, sVal_e, cmp_niS, in_T, dec_dig, rTr_bl], fun _ => by
          simp only [sVar_0, sVar_s]⟩)
        rw [mkB_f (by rw [List.length_map]; exact Nat.le_trans (List.length_filter_le ..) (by unfold big; omega))] at ec
        have eem : (((l.drop 2).filter fun c => !isD c).map fun c => D.str (T [c])).isEmpty = (l.drop 2).all isD := by
          rw [Bool.eq_iff_iff, List.isEmpty_iff, List.map_eq_nil_iff, List.filter_eq_nil_iff, List.all_eq_true]
          simp
        by_cases hd : (l.drop 2).all isD = true
        · have e3 : (sIfS (tVal (sBin (cmpF pc_kc .NotEq) (sComp false [4] (iVal (sVar 3)) (gName' 4) (tVal (sBin (cmpF pc_kc .NotIn) (sVar 4) (sVal (.str (T [48, 49, 50, 51, 52, 53, 54, 55, 56, 57]))))) (sVar 4)) (sLstE false sNil))) M_law_good_t1 sNx) [some (.str (T l)), some (.dK (mergeD [] KV)), some (.str (T (l.take 2))), some (.str (T (l.drop 2))), none] st = .nx [some (.str (T l)), some (.dK (mergeD [] KV)), some (.str (T (l.take 2))), some (.str (T (l.drop 2))), none] st := by
            simp only [sIfS_e, tVal_e, sBin_e, ec, R.bind_ok, sLstE_e, sNil_e, mkL_f (st := st) (ds := []) (by decide), cmp_neL0, eem, hd, Bool.not_true, rTr_bl, rSt_f, sNx_e]
          rw [seq_nx e3]
          obtain ⟨w, hw, hg⟩ := good_if hs hl hd
          have d1 : ((l.drop 2).take 2).all isD = true := by
            rw [List.all_eq_true] at hd ⊢
            exact fun x hx => hd x (List.mem_of_mem_take hx)
          have hc2 : ((l.drop 2).take 2).length = 2 := by rw [List.length_take, List.length_drop]; omega
          have ei : bInt [.str (T ((l.drop 2).take 2))] st = .ok (.int (dv 0 ((l.drop 2).take 2) : Nat)) st := bInt_T d1 (by intro z; rw [z] at hc2; cases hc2) (by omega)
          have hrest : F_law_rest [.str (T (l.drop 4 ++ l.take 2 ++ (l.drop 2).take 2))] st = .ok (.int ((w % 97 : Nat) : Int)) st := f_law_rest hw (by intro z; have := congrArg List.length z; rw [List.length_append, hc2] at this; simp at this) (by rw [List.length_append, List.length_append]; rw [List.length_drop]; omega)
          have a1 : dAdd (.str (T (l.drop 4))) (.str (T (l.take 2))) st = .ok (.str (T (l.drop 4 ++ l.take 2))) st := dAdd_T (by unfold big; omega)
          have a2 : dAdd (.str (T (l.drop 4 ++ l.take 2))) (.str (T ((l.drop 2).take 2))) st = .ok (.str (T (l.drop 4 ++ l.take 2 ++ (l.drop 2).take 2))) st := dAdd_T (by rw [List.length_append]; unfold big; omega)
          have q1 : dSlice false (.str (T (l.drop 2))) none (some 2) st = .ok (.str (T ((l.drop 2).take 2))) st := dSl_to (i := 2) (by omega) (by unfold big; omega)
          have q2 : dSlice false (.str (T (l.drop 2))) (some 2) none st = .ok (.str (T (l.drop 4))) st := by
            rw [← e42]
            exact dSl_from (i := 2) (by omega) (by unfold big; omega)
          have c1 : decide ((2 : Int) ≤ ((dv 0 ((l.drop 2).take 2) : Nat) : Int)) = decide (2 ≤ dv 0 ((l.drop 2).take 2)) := by
            rw [decide_eq_decide]; omega
          have c2 : decide (((dv 0 ((l.drop 2).take 2) : Nat) : Int) ≤ (98 : Int)) = decide (dv 0 ((l.drop 2).take 2) ≤ 98) := by
            rw [decide_eq_decide]; omega
          have c3 : ((((w % 97 : Nat) : Int)) == (1 : Int)) = decide (w % 97 = 1) := by
            rw [Bool.eq_iff_iff, beq_iff_eq, decide_eq_true_eq]; omega
          simp only [sSeq_e, sRet_e, sAndT_e, sChain_e, sVal_e, R.bind_ok, sCall_e, sCons_e, sVar_0, sVar_s, sNil_e, sSlice_e, pNone_e, pSome_e, rPt_int, q1, q2, ei, cmp_le, c1, c2, sBin_e, a1, a2, hrest, cmp_eqI, c3, hg]
          cases decide (2 ≤ dv 0 ((l.drop 2).take 2)) with
          | false => simp
          | true =>
            cases decide (dv 0 ((l.drop 2).take 2) ≤ 98) with
            | false => simp
            | true => simp only [rCh_t, R.bind_ok, rAndT_t, sE2_ok, then_rt, q1, q2, a1, a2, hrest, cmp_eqI, c3, Bool.true_and, sVal_e, sVar_0, sVar_s, sCons_e, sNil_e, cmp_le, c2, sSlice_e, pNone_e, pSome_e, rPt_int]
        · have hg : good l = false := by unfold good; rw [hs]; simp [Bool.eq_false_iff.mpr hd]
          simp only [sSeq_e, sIfS_e, tVal_e, sBin_e, ec, R.bind_ok, sLstE_e, sNil_e, mkL_f (st := st) (ds := []) (by decide), cmp_neL0, eem, Bool.eq_false_iff.mpr hd, Bool.not_false, rTr_bl, rSt_t, hg]
          simp [M_law_good_t1]
      · have hg : good l = false := by unfold good; rw [hs]; simp [hl]
        have hl4 : (((l.drop 2).length : Int) == ((n : Int) + 2)) = false := by
          rw [beq_eq_false_iff_ne, List.length_drop]
          omega
        simp only [sSeq_e, sIfS_e, tOr_e, tVal_e, sBin_e, sVar_0, sVar_s, R.bind_ok, sVal_e, ni_KV, hs, rTr_bl, Option.isSome_some, Bool.not_true, rOr_f, sCall_e, sCons_e, sNil_e, bl, ix_KV hs, an, cmp_neI, hl4, Bool.not_false, rSt_t, hg]
        simp [M_law_good_t0]
  have e := semF_eq (esc := false) (np := 1) den_law_good rfl hr
  unfold F_law_good
  rw [e]
  simp
end
end K03

namespace K03
open L2 PyProof.Rows PySem.Spec PySem Bk
section
variable {st : Store}
theorem tnat {p : Nat} : ((p : Int)).toNat = p := Int.toNat_natCast p
/-! groups of four -/
def groups (l : List Nat) : List (List Nat) := (List.range ((l.length + 3) / 4)).map fun i => (l.drop (4 * i)).take 4
theorem rng4 (n : Nat) (h : n < 300) : (4 : Int).natAbs < 1073741824 ∧ Builtin.Range.small 0 (n : Int) 4 = true ∧ 0 ≤ Builtin.Range.rangeSize 0 (n : Int) 4 ∧ (Builtin.Range.rangeSize 0 (n : Int) 4).toNat = (n + 3) / 4 := by
  have : ∀ n : Nat, n < 300 → (4 : Int).natAbs < 1073741824 ∧ Builtin.Range.small 0 (n : Int) 4 = true ∧ 0 ≤ Builtin.Range.rangeSize 0 (n : Int) 4 ∧ (Builtin.Range.rangeSize 0 (n : Int) 4).toNat = (n + 3) / 4 := by decide +kernel
  exact this n h
theorem it4 {f : SE} {ρ : Lc} {n : Nat} (h : n < 300) (e : f ρ st = .ok (.int (n : Nat)) st) : iRng3' (sVal (.int 0)) f (sVal (.int 4)) ρ st = .ok (wkL ((List.range ((n + 3) / 4)).map fun (i : Nat) => D.int (0 + (i : Int) * 4))) st := by
  obtain ⟨h1, h2, h3, h4⟩ := rng4 n h
  unfold iRng3'
  simp only [sVal_e, R.bind_ok, e]
  rw [if_pos ⟨by decide, h1, h2, h3⟩, h4]
  rfl
theorem comp4 {ρ : Lc} {l : List Nat} {v i : Nat} (h : l.length < 300) (hv : ρ[v]? = some (some (.str (T l)))) (hi : i < ρ.length) (hne : i ≠ v) :
    sComp false [i] (iRng3' (sVal (.int 0)) (sCall bLen (sCons (sVar v) sNil)) (sVal (.int 4))) (gName' i) tYesE (sSlice false (sVar v) (pSome (sVar i)) (pSome (sBin dAdd (sVar i) (sVal (.int 4))))) ρ st = .ok (.lst ((groups l).map fun g => D.str (T g))) st := by
  have bl : bLen [.str (T l)] st = .ok (.int l.length) st := bLen_T (by unfold big; omega)
  have e0 : sVar v ρ st = .ok (.str (T l)) st := sVar_get hv
  have ei := it4 (st := st) (f := sCall bLen (sCons (sVar v) sNil)) (ρ := ρ) h (by simp only [sCall_e, sCons_e, e0, R.bind_ok, sNil_e, bl])
  have ec := comp_wkL (m := false) (own := [i]) ei (compL_all (gt := gName' i) (st := st) (elt := sSlice false (sVar v) (pSome (sVar i)) (pSome (sBin dAdd (sVar i) (sVal (.int 4))))) (ρ0 := wipeD ρ [i]) (fun (i : Nat) => D.int (0 + (i : Int) * 4)) (fun (k : Nat) => D.str (T ((l.drop (4 * k)).take 4))) (List.range ((l.length + 3) / 4)) fun k hk => ⟨_, gn (by simpa [wipeD] using hi), by
    have q1 : sVar v ((wipeD ρ [i]).set i (some (.int (0 + (k : Int) * 4)))) st = .ok (.str (T l)) st := sVar_get (by
      show ((ρ.set i none).set i _)[v]? = _
      rw [List.getElem?_set_ne hne, List.getElem?_set_ne hne, hv])
    have q2 : sVar i ((wipeD ρ [i]).set i (some (.int (0 + (k : Int) * 4)))) st = .ok (.int (0 + (k : Int) * 4)) st := sVar_get (by
      show ((ρ.set i none).set i _)[i]? = _
      rw [List.getElem?_set_self (by simpa using hi)])
    have q3 : dSlice false (.str (T l)) (some (0 + (k : Int) * 4)) (some (0 + (k : Int) * 4 + 4)) st = .ok (.str (T ((l.drop (4 * k)).take 4))) st := by
      rw [dSl_mid (by omega) (by omega) (by unfold big; omega)]
      refine congrArg (fun z => R.ok (D.str (T z)) st) ?_
      have z1 : (0 + (k : Int) * 4).toNat = 4 * k := by omega
      have z2 : (0 + (k : Int) * 4 + 4).toNat - (0 + (k : Int) * 4).toNat = 4 := by omega
      rw [z2, z1]
    simp only [sSlice_e, q1, q2, R.bind_ok, pSome_e, rPt_int, sBin_e, sVal_e, dAdd_int, q3]⟩)
  rw [ec, mkB_f]
  · unfold groups
    rw [List.map_map]
    rfl
  · rw [List.length_map, List.length_range]
    unfold big
    omega
theorem groups_sum (l : List Nat) : ((groups l).map (·.length)).sum + (groups l).length * 1 ≤ 5 * (l.length + 4) := by
  unfold groups
  rw [List.map_map, List.length_map, List.length_range]
  have : ∀ xs : List Nat, (xs.map ((fun x => x.length) ∘ fun i => (l.drop (4 * i)).take 4)).sum ≤ 4 * xs.length := by
    intro xs
    induction xs with
    | nil => simp
    | cons x xs ih =>
      rw [List.map_cons, List.sum_cons, List.length_cons]
      have : ((fun x => List.length x) ∘ fun i => (l.drop (4 * i)).take 4) x ≤ 4 := by
        show ((l.drop (4 * x)).take 4).length ≤ 4
        rw [List.length_take]; omega
      omega
  have h := this (List.range ((l.length + 3) / 4))
  rw [List.length_range] at h
  omega
def partedL (l : List Nat) : List Nat := TL.joinL [32] (groups l)
theorem join_groups {l : List Nat} (h : l.length < 300) : mJoin (T [32]) [.lst ((groups l).map fun g => D.str (T g))] st = .ok (.str (T (partedL l))) st := mJoin_T (by
  have := groups_sum l
  show ((groups l).map (·.length)).sum + (groups l).length * 1 ≤ big
  unfold big
  omega)
theorem f_parted {l : List Nat} (h : l.length < 300) : F_parted [.str (T l)] st = if good l = true then .ok (.str (T (partedL l))) st else .exn 1 st := by
  have hg : F_is_good [.str (T l)] st = .ok (.bl (good l)) st := f_is_good (by omega)
  have ec := comp4 (st := st) (ρ := [some (.str (T l)), none]) (v := 0) (i := 1) h rfl (by simp) (by omega)
  have hr : M_parted ([.str (T l)].map some ++ List.replicate (S_parted.N.length - 1) none) st = if good l = true then .rt (.str (T (partedL l))) st else .exn 1 st := by
    show M_parted [some (.str (T l)), none] st = _
    unfold M_parted
    cases q : good l with
    | false => simp [hg, q, M_parted_t0]
    | true =>
      simp only [sSeq_e, sIfS_e, tNot_e, tVal_e, sCall_e, sCons_e, sVar_0, R.bind_ok, sNil_e, hg, q, rTr_bl, Bool.not_true, rSt_f, sNx_e, then_nx, sRet_e, sMeth_e, sVal_e, mo_join, ec, mtRun_some, join_groups h, sE2_ok, then_rt, if_true]
  have e := semF_eq (esc := false) (np := 1) den_parted rfl hr
  unfold F_parted
  rw [e]
  split <;> simp
/-! reading -/
def lowc (c : Nat) : Nat := if 65 ≤ c ∧ c ≤ 90 then c + 32 else c
def readL (t : List Nat) : List Nat := (t.filter fun c => !decide (c = 32)).map lowc
theorem mFindUp (c : Nat) : mFind (T [65, 66, 67, 68, 69, 70, 71, 72, 73, 74, 75, 76, 77, 78, 79, 80, 81, 82, 83, 84, 85, 86, 87, 88, 89, 90]) [.str (T [c])] st = .ok (.int (if 65 ≤ c ∧ c ≤ 90 then ((c - 65 : Nat) : Int) else -1)) st := by
  rw [mFind_T]
  exact congrArg (fun z => R.ok (D.int z) st) (findUp c)
theorem ix_T {a : List Nat} {k c : Nat} (hl : a.length ≤ big) (h : a[k]? = some c) : dIx pc_kc (.str (T a)) (.int (k : Nat)) st = .ok (.str (T [c])) st := by
  have e : dIx pc_kc (.str (T a)) (.int (k : Nat)) st = (if (T a).length ≤ big then (match atI (T a).cps.toList ((k : Nat) : Int) with
    | some c => R.ok (D.str ⟨#[c]⟩) st
    | none => .stuck) else .stuck) := rfl
  rw [e, T_len, if_pos hl, T_tl, atI_nat h]
  rfl
theorem read_step (t : D) (acc : List Nat) (c : Nat) (o : Option D) (hl : acc.length ≤ 1000) : ∃ o', M_read_f0 [some t, some (.str (T acc)), some (.str (T [c])), o] st = .nx [some t, some (.str (T (if c = 32 then acc else acc ++ [lowc c]))), some (.str (T [c])), o'] st := by
  unfold M_read_f0
  have e1 : (sAsg (sMeth "find" (sVal (.str (T [65, 66, 67, 68, 69, 70, 71, 72, 73, 74, 75, 76, 77, 78, 79, 80, 81, 82, 83, 84, 85, 86, 87, 88, 89, 90]))) (sCons (sVar 2) sNil)) (gName' 3)) [some t, some (.str (T acc)), some (.str (T [c])), o] st = .nx [some t, some (.str (T acc)), some (.str (T [c])), some (.int (if 65 ≤ c ∧ c ≤ 90 then ((c - 65 : Nat) : Int) else -1))] st := by
    simp only [sAsg_e, sMeth_e, sVal_e, R.bind_ok, mo_find, sCons_e, sVar_0, sVar_s, sNil_e, mtRun_some, mFindUp, sE2_ok]
    rw [gAsg_name (by simp)]
    rfl
  refine ⟨some (.int (if 65 ≤ c ∧ c ≤ 90 then ((c - 65 : Nat) : Int) else -1)), ?_⟩
  rw [seq_nx e1]
  by_cases h32 : c = 32
  · subst h32
    have q : (T [32] == T [32]) = true := beq_self_eq_true _
    simp only [sSeq_e, sIfS_e, tVal_e, sBin_e, sVar_0, sVar_s, sVal_e, R.bind_ok, cmp_neS, q, Bool.not_true, rTr_bl, rSt_f, sNx_e, then_nx, if_true]
  · have q : (T [c] == T [32]) = false := by rw [T_beq]; simp [h32]
    have ha : augAdd (.str (T acc)) (.str (T [lowc c])) st = .ok (.str (T (acc ++ [lowc c]))) st := aAdd_T (by show acc.length + 1 ≤ big; unfold big; omega)
    have et : M_read_t1 [some t, some (.str (T acc)), some (.str (T [c])), some (.int (if 65 ≤ c ∧ c ≤ 90 then ((c - 65 : Nat) : Int) else -1))] st = .nx [some t, some (.str (T (acc ++ [lowc c]))), some (.str (T [c])), some (.int (if 65 ≤ c ∧ c ≤ 90 then ((c - 65 : Nat) : Int) else -1))] st := by
      have ev : (sIf (tVal (sBin (cmpF pc_kc .GtE) (sVar 3) (sVal (.int 0)))) (sBin (dIx pc_kc) (sVal (.str (T [97, 98, 99, 100, 101, 102, 103, 104, 105, 106, 107, 108, 109, 110, 111, 112, 113, 114, 115, 116, 117, 118, 119, 120, 121, 122]))) (sVar 3)) (sVar 2)) [some t, some (.str (T acc)), some (.str (T [c])), some (.int (if 65 ≤ c ∧ c ≤ 90 then ((c - 65 : Nat) : Int) else -1))] st = .ok (.str (T [lowc c])) st := by
        by_cases hu : 65 ≤ c ∧ c ≤ 90
        · have z : lowc c = c + 32 := by unfold lowc; rw [if_pos hu]
          have z2 : (0 : Int) ≤ ((c - 65 : Nat) : Int) := by omega
          have z3 : dIx pc_kc (.str (T [97, 98, 99, 100, 101, 102, 103, 104, 105, 106, 107, 108, 109, 110, 111, 112, 113, 114, 115, 116, 117, 118, 119, 120, 121, 122])) (.int ((c - 65 : Nat) : Int)) st = .ok (.str (T [c + 32])) st := by
            refine ix_T (by show 26 ≤ big; decide) ?_
            rw [low_at (by omega)]
            exact congrArg some (by omega)
          simp only [if_pos hu, sIf_e, tVal_e, sBin_e, sVar_0, sVar_s, sVal_e, R.bind_ok, cmp_ge, z2, decide_true, rTr_bl, rIf_t, z3, z]
        · have z : lowc c = c := by unfold lowc; rw [if_neg hu]
          have z2 : ¬ ((0 : Int) ≤ -1) := by omega
          simp only [if_neg hu, sIf_e, tVal_e, sBin_e, sVar_0, sVar_s, sVal_e, R.bind_ok, cmp_ge, z2, decide_false, rTr_bl, rIf_f, z]
      unfold M_read_t1
      have e2 : sAugS 1 augAdd (sIf (tVal (sBin (cmpF pc_kc .GtE) (sVar 3) (sVal (.int 0)))) (sBin (dIx pc_kc) (sVal (.str (T [97, 98, 99, 100, 101, 102, 103, 104, 105, 106, 107, 108, 109, 110, 111, 112, 113, 114, 115, 116, 117, 118, 119, 120, 121, 122]))) (sVar 3)) (sVar 2)) [some t, some (.str (T acc)), some (.str (T [c])), some (.int (if 65 ≤ c ∧ c ≤ 90 then ((c - 65 : Nat) : Int) else -1))] st = .nx [some t, some (.str (T (acc ++ [lowc c]))), some (.str (T [c])), some (.int (if 65 ≤ c ∧ c ≤ 90 then ((c - 65 : Nat) : Int) else -1))] st := by
        unfold sAugS
        rw [show ([some t, some (.str (T acc)), some (.str (T [c])), some (.int (if 65 ≤ c ∧ c ≤ 90 then ((c - 65 : Nat) : Int) else -1))] : Lc)[1]? = some (some (.str (T acc))) from rfl]
        simp only [ev, sE2_ok, ha]
        rw [gn (by simp)]
        rfl
      rw [seq_nx e2, sNx_e]
    simp only [sSeq_e, sIfS_e, tVal_e, sBin_e, sVar_0, sVar_s, sVal_e, R.bind_ok, cmp_neS, q, Bool.not_false, rTr_bl, rSt_t, et, then_nx, sNx_e, if_neg h32]
theorem read_loop (t : D) : ∀ (l acc : List Nat) (o2 o3 : Option D), acc.length + l.length ≤ 1000 → ∃ o2' o3', forL (gName' 2) M_read_f0 (l.map fun c => D.str (T [c])) [some t, some (.str (T acc)), o2, o3] st = .nx [some t, some (.str (T (acc ++ readL l))), o2', o3'] st
  | [], acc, o2, o3, _ => ⟨o2, o3, by show _ = RS.nx [some t, some (.str (T (acc ++ []))), o2, o3] st; rw [List.append_nil]; rfl⟩
  | c :: l, acc, o2, o3, hl => by
    rw [List.length_cons] at hl
    obtain ⟨o', e⟩ := read_step (st := st) t acc c o3 (by omega)
    have hk : (if c = 32 then acc else acc ++ [lowc c]).length ≤ acc.length + 1 := by split <;> simp
    obtain ⟨o2', o3', e2⟩ := read_loop t l (if c = 32 then acc else acc ++ [lowc c]) (some (.str (T [c]))) o' (by omega)
    refine ⟨o2', o3', ?_⟩
    rw [List.map_cons, forL_cons (gn (by simp : 2 < [some t, some (.str (T acc)), o2, o3].length))]
    have z : List.set [some t, some (.str (T acc)), o2, o3] 2 (some (D.str (T [c]))) = [some t, some (.str (T acc)), some (D.str (T [c])), o3] := rfl
    rw [z, e]
    have z2 : acc ++ readL (c :: l) = (if c = 32 then acc else acc ++ [lowc c]) ++ readL l := by
      unfold readL
      by_cases h : c = 32
      · simp [h]
      · simp [h]
    rw [z2]
    exact e2
theorem readL_len (l : List Nat) : (readL l).length ≤ l.length := by
  unfold readL
  rw [List.length_map]
  exact List.length_filter_le ..
theorem f_read {l : List Nat} (h : l.length ≤ 300) : F_read [.str (T l)] st = if good (readL l) = true then .ok (.str (T (readL l))) st else .exn 1 st := by
  have hk := readL_len l
  have hg : F_is_good [.str (T (readL l))] st = .ok (.bl (good (readL l))) st := f_is_good (by omega)
  have hr : M_read ([.str (T l)].map some ++ List.replicate (S_read.N.length - 1) none) st = if good (readL l) = true then .rt (.str (T (readL l))) st else .exn 1 st := by
    show M_read [some (.str (T l)), none, none, none] st = _
    unfold M_read
    have e0 : (sAsg (sVal (.str (T []))) (gName' 1)) [some (.str (T l)), none, none, none] st = .nx [some (.str (T l)), some (.str (T [])), none, none] st := by
      simp only [sAsg_e, sVal_e, sE2_ok]
      rw [gAsg_name (by simp)]
      rfl
    obtain ⟨o2, o3, el⟩ := read_loop (st := st) (.str (T l)) l [] none none (by simp; omega)
    have e1 : (sForS (iVal (sVar 0)) (gName' 2) M_read_f0) [some (.str (T l)), some (.str (T [])), none, none] st = .nx [some (.str (T l)), some (.str (T (readL l))), o2, o3] st := by
      rw [for_wkL (ds := l.map fun c => D.str (T [c])) (st1 := st) (by simp only [iVal_e, sVar_0, R.bind_ok, dIter_T]), el, List.nil_append]
    rw [seq_nx e0, seq_nx e1]
    cases q : good (readL l) with
    | false => simp [hg, q, M_read_t2]
    | true => simp [hg, q]
  have e := semF_eq (esc := false) (np := 1) den_read rfl hr
  unfold F_read
  rw [e]
  split <;> simp
/-! serial numbers -/
theorem rep0 {k : Nat} (h : k ≤ 1000) : dMul (.str (T [48])) (.int (k : Nat)) st = .ok (.str (T (List.replicate k 48))) st := by
  have e : dMul (.str (T [48])) (.int (k : Nat)) st = (if repOk (T [48]).length (k : Nat) then R.ok (D.str (repS (T [48]) (k : Nat))) st else .stuck) := rfl
  rw [e, if_pos]
  · unfold repS
    rw [tnat, T_tl]
    refine congrArg (fun z => R.ok (D.str (T z)) st) ?_
    induction k with
    | zero => rfl
    | succ k ih => rw [List.replicate_succ, List.flatten_cons, ih (by omega) rfl]; rfl
  · unfold repOk
    rw [T_len, tnat]
    have a1 : decide ((0 : Int) ≤ (k : Int)) = true := decide_eq_true (by omega)
    have a2 : decide ((k : Int) ≤ (big : Int)) = true := decide_eq_true (by unfold big; omega)
    have a3 : decide ([48].length * k ≤ big) = true := decide_eq_true (by show 1 * k ≤ big; unfold big; omega)
    rw [a1, a2, a3]
    rfl
def serL (n : Nat) (bank : List Nat) (count : Nat) : List Nat := bank ++ List.replicate (n - bank.length - (TL.numL count).length) 48 ++ TL.numL count
theorem f_serial {land bank : List Nat} {n count : Nat} (hs : sizeL land = some n) (hb : bank.length ≤ 100) (hc : count < 100000) :
    F_serial [.str (T land), .str (T bank), .int (count : Nat)] st = if bank.length + (TL.numL count).length ≤ n then F_with_check [.str (T land), .str (T (serL n bank count))] st else .exn 1 st := by
  have hsz := size_b hs
  have hn : (TL.numL count).length ≤ 5 := TL.numL_len (by omega) (by omega)
  have eb : bStr [.int (count : Nat)] st = .ok (.str (T (TL.numL count))) st := bStr_num (small_pow (by omega))
  have l1 : bLen [.str (T bank)] st = .ok (.int bank.length) st := bLen_T (by unfold big; omega)
  have l2 : bLen [.str (T (TL.numL count))] st = .ok (.int (TL.numL count).length) st := bLen_T (by unfold big; omega)
  have lk := ni_lands (st := st) land
  rw [hs] at lk
  have ix := ix_lands (st := st) hs
  have n0 : ¬ ((count : Int) < 0) := by omega
  have e0 : (sAsg (sCall bStr (sCons (sVar 2) sNil)) (gName' 3)) [some (.str (T land)), some (.str (T bank)), some (.int (count : Nat)), none] st = .nx [some (.str (T land)), some (.str (T bank)), some (.int (count : Nat)), some (.str (T (TL.numL count)))] st := by
    simp only [sAsg_e, sCall_e, sCons_e, sVar_0, sVar_s, R.bind_ok, sNil_e, eb, sE2_ok]
    rw [gAsg_name (by simp)]
    rfl
  by_cases hf : bank.length + (TL.numL count).length ≤ n
  · rw [if_pos hf]
    have ng : ¬ ((n : Int) < (bank.length : Int) + ((TL.numL count).length : Int)) := by omega
    have ez : (n : Int) - (bank.length : Int) - ((TL.numL count).length : Int) = ((n - bank.length - (TL.numL count).length : Nat) : Int) := by omega
    have a1 : dAdd (.str (T bank)) (.str (T (List.replicate (n - bank.length - (TL.numL count).length) 48))) st = .ok (.str (T (bank ++ List.replicate (n - bank.length - (TL.numL count).length) 48))) st := dAdd_T (by rw [List.length_replicate]; unfold big; omega)
    have a2 : dAdd (.str (T (bank ++ List.replicate (n - bank.length - (TL.numL count).length) 48))) (.str (T (TL.numL count))) st = .ok (.str (T (serL n bank count))) st := dAdd_T (by rw [List.length_append, List.length_replicate]; unfold big; omega)
    have r0 := rep0 (st := st) (k := n - bank.length - (TL.numL count).length) (by omega)
    have hfig : (serL n bank count).length = n := by
      unfold serL
      rw [List.length_append, List.length_append, List.length_replicate]
      omega
    have hw := f_with_check (st := st) (land := land) (fig := serL n bank count) (by omega) (by omega)
    have hr : M_serial ([.str (T land), .str (T bank), .int (count : Nat)].map some ++ List.replicate (S_serial.N.length - 3) none) st = sE2 (F_with_check [.str (T land), .str (T (serL n bank count))] st) fun d st1 => .rt d st1 := by
      show M_serial [some (.str (T land)), some (.str (T bank)), some (.int (count : Nat)), none] st = _
      unfold M_serial
      rw [seq_nx e0]
      simp only [sSeq_e, sIfS_e, tOr_e, tVal_e, sBin_e, sVar_0, sVar_s, sVal_e, R.bind_ok, lk, Option.isSome_some, Bool.not_true, rTr_bl, rOr_f, cmp_lt, n0, decide_false, sCall_e, sCons_e, sNil_e, l1, l2, dAdd_int, ix, cmp_gt, ng, rSt_f, sNx_e, then_nx, sRet_e, dSub_int, ez, r0, a1, a2]
      rw [hw, hs]
      simp only
      split <;> rfl
    rw [hw, hs] at hr
    have e := semF_eq (esc := false) (np := 3) den_serial rfl hr
    unfold F_serial
    rw [e, hw, hs]
    simp only
    split <;> simp
  · rw [if_neg hf]
    have ng : ((n : Int) < (bank.length : Int) + ((TL.numL count).length : Int)) := by omega
    have hr : M_serial ([.str (T land), .str (T bank), .int (count : Nat)].map some ++ List.replicate (S_serial.N.length - 3) none) st = .exn 1 st := by
      show M_serial [some (.str (T land)), some (.str (T bank)), some (.int (count : Nat)), none] st = _
      unfold M_serial
      rw [seq_nx e0]
      simp only [sSeq_e, sIfS_e, tOr_e, tVal_e, sBin_e, sVar_0, sVar_s, sVal_e, R.bind_ok, lk, Option.isSome_some, Bool.not_true, rTr_bl, rOr_f, cmp_lt, n0, decide_false, sCall_e, sCons_e, sNil_e, l1, l2, dAdd_int, ix, cmp_gt, ng, decide_true, rSt_t, M_serial_t0, sRaise_e, then_exn]
    have e := semF_eq (esc := false) (np := 3) den_serial rfl hr
    unfold F_serial
    rw [e]
    simp
end
end K03

namespace K03
open L2 PyProof.Rows PySem.Spec PySem Bk
section
variable {st : Store}
/-! a dict of texts in the store, all with the same value -/
def ks (v : D) (acc : List (List Nat)) : List (Key × D) := acc.map fun o => (.inr (T o), v)
theorem put_ks (v : D) (acc : List (List Nat)) (o : List Nat) : putD (ks v acc) (.inr (T o)) v = ks v (addU acc o) := by
  unfold putD ks addU
  by_cases h : o ∈ acc
  · rw [if_pos, if_pos h, List.map_map]
    · refine List.map_congr_left fun x hx => ?_
      show (if (Sum.inr (T x) : Key) = Sum.inr (T o) then ((Sum.inr (T x) : Key), v) else ((Sum.inr (T x) : Key), v)) = _
      split <;> rfl
    · rw [List.any_map, List.any_eq_true]
      exact ⟨o, h, decide_eq_true rfl⟩
  · rw [if_neg, if_neg h, List.map_append]
    · rfl
    · rw [List.any_map, List.any_eq_true]
      rintro ⟨x, hx, e⟩
      have e : (Sum.inr (T x) : Key) = Sum.inr (T o) := of_decide_eq_true e
      rw [inr_T] at e
      exact h (e ▸ hx)
theorem merge_ks (v : D) : ∀ (xs acc : List (List Nat)), mergeD (ks v acc) (ks v xs) = ks v (xs.foldl addU acc)
  | [], acc => rfl
  | x :: xs, acc => by
    have e : mergeD (ks v acc) (ks v (x :: xs)) = mergeD (putD (ks v acc) (.inr (T x)) v) (ks v xs) := rfl
    rw [e, put_ks, merge_ks v xs, List.foldl_cons]
theorem keys_ks (v : D) (acc : List (List Nat)) : (ks v acc).map (fun p => keyD p.1) = acc.map fun o => D.str (T o) := by
  unfold ks
  rw [List.map_map]
  rfl
theorem at_end {o : SObj} : (st ++ [o])[st.length]? = some o := by
  rw [List.getElem?_append_right (Nat.le_refl _), Nat.sub_self]
  rfl
theorem set_end {o o' : SObj} : List.set (st ++ [o]) st.length o' = st ++ [o'] := by
  rw [List.set_append_right _ _ (Nat.le_refl _), Nat.sub_self]
  rfl
theorem set_ks {v : D} {acc : List (List Nat)} {o : List Nat} (h : acc.length < big) : dSet (.ref st.length) (.str (T o)) v (st ++ [.dK false (ks v acc)]) = .ok () (st ++ [.dK false (ks v (addU acc o))]) := by
  have e : dSet (.ref st.length) (.str (T o)) v (st ++ [.dK false (ks v acc)]) = (match (st ++ [SObj.dK false (ks v acc)])[st.length]? with
    | some (.lst ds) => Bk.R.stuck
    | some (.dK false kvs) => if kvs.length < big then .ok () (List.set (st ++ [SObj.dK false (ks v acc)]) st.length (.dK false (putD kvs (.inr (T o)) v))) else .stuck
    | _ => .stuck) := by
    unfold dSet
    simp only [at_end]
    rfl
  rw [e, at_end]
  simp only
  rw [if_pos (by unfold ks; rw [List.length_map]; exact h), set_end, put_ks]
/-! slips -/
section
variable {l : List Nat} (hl : l.length ≤ 200)
include hl
theorem slip_put {p d : Nat} (hp : p < l.length) {acc : List (List Nat)} {o4 : Option D} (ha : acc.length < 100000) :
    M_slips_of_f2 [some (.str (T l)), some (.ref st.length), some (.int (p : Nat)), some (.str (T [d])), o4] (st ++ [.dK false (ks (.bl true) acc)]) = .nx [some (.str (T l)), some (.ref st.length), some (.int (p : Nat)), some (.str (T [d])), o4] (st ++ [.dK false (ks (.bl true) (addU acc (put1 l p d)))]) := by
  have b : l.length ≤ big := by unfold big; omega
  have q1 : ∀ st : Store, dSlice false (.str (T l)) none (some (p : Int)) st = .ok (.str (T (l.take p))) st := fun st => by
    have := dSl_to (st := st) (a := l) (i := (p : Int)) (by omega) b
    rwa [tnat] at this
  have q2 : ∀ st : Store, dSlice false (.str (T l)) (some ((p : Int) + 1)) none st = .ok (.str (T (l.drop (p + 1)))) st := fun st => by
    have := dSl_from (st := st) (a := l) (i := (p : Int) + 1) (by omega) b
    rwa [show ((p : Int) + 1).toNat = p + 1 by omega] at this
  have lt : (l.take p).length ≤ 200 := by rw [List.length_take]; omega
  have ld : (l.drop (p + 1)).length ≤ 200 := by rw [List.length_drop]; omega
  have a1 : ∀ st : Store, dAdd (.str (T (l.take p))) (.str (T [d])) st = .ok (.str (T (l.take p ++ [d]))) st := fun st => dAdd_T (by show _ + 1 ≤ big; unfold big; omega)
  have a2 : ∀ st : Store, dAdd (.str (T (l.take p ++ [d]))) (.str (T (l.drop (p + 1)))) st = .ok (.str (T (put1 l p d))) st := fun st => dAdd_T (by rw [List.length_append]; show _ + 1 + _ ≤ big; unfold big; omega)
  have s1 := set_ks (st := st) (v := .bl true) (acc := acc) (o := put1 l p d) (by unfold big; omega)
  unfold M_slips_of_f2
  have e1 : sSetS (sVal (.bl true)) (sVar 1) (sBin dAdd (sBin dAdd (sSlice false (sVar 0) pNone (pSome (sVar 2))) (sVar 3)) (sSlice false (sVar 0) (pSome (sBin dAdd (sVar 2) (sVal (.int 1)))) pNone)) [some (.str (T l)), some (.ref st.length), some (.int (p : Nat)), some (.str (T [d])), o4] (st ++ [.dK false (ks (.bl true) acc)]) = .nx [some (.str (T l)), some (.ref st.length), some (.int (p : Nat)), some (.str (T [d])), o4] (st ++ [.dK false (ks (.bl true) (addU acc (put1 l p d)))]) := by
    unfold sSetS
    simp only [sVal_e, sE2_ok, sVar_0, sVar_s, sBin_e, sSlice_e, R.bind_ok, pNone_e, pSome_e, rPt_int, q1, q2, dAdd_int, a1, a2, s1]
  rw [seq_nx e1, sNx_e]
theorem slip_puts {p : Nat} (hp : p < l.length) {o4 : Option D} : ∀ (ds : List Nat) (acc : List (List Nat)) (o3 : Option D), acc.length + ds.length ≤ 100000 →
    ∃ o3', forL (gName' 3) M_slips_of_f2 (ds.map fun c => D.str (T [c])) [some (.str (T l)), some (.ref st.length), some (.int (p : Nat)), o3, o4] (st ++ [.dK false (ks (.bl true) acc)])
      = .nx [some (.str (T l)), some (.ref st.length), some (.int (p : Nat)), o3', o4] (st ++ [.dK false (ks (.bl true) ((ds.map (put1 l p)).foldl addU acc))])
  | [], acc, o3, _ => ⟨o3, rfl⟩
  | d :: ds, acc, o3, h => by
    rw [List.length_cons] at h
    have hk : (addU acc (put1 l p d)).length ≤ acc.length + 1 := addU_len [put1 l p d] acc
    obtain ⟨o3', e⟩ := slip_puts hp ds (addU acc (put1 l p d)) (some (.str (T [d]))) (by omega)
    refine ⟨o3', ?_⟩
    rw [List.map_cons, forL_cons (gn (by simp : 3 < [some (D.str (T l)), some (.ref st.length), some (.int (p : Nat)), o3, o4].length))]
    have z : List.set [some (D.str (T l)), some (.ref st.length), some (.int (p : Nat)), o3, o4] 3 (some (D.str (T [d]))) = [some (.str (T l)), some (.ref st.length), some (.int (p : Nat)), some (.str (T [d])), o4] := rfl
    rw [z, slip_put hl hp (by omega)]
    simp only
    rw [e]
    rfl
theorem slip_turn {p : Nat} (hp : p < l.length) {acc : List (List Nat)} {o3 o4 : Option D} (ha : acc.length ≤ 90000) :
    ∃ o3', M_slips_of_f1 [some (.str (T l)), some (.ref st.length), some (.int (p : Nat)), o3, o4] (st ++ [.dK false (ks (.bl true) acc)])
      = .nx [some (.str (T l)), some (.ref st.length), some (.int (p : Nat)), o3', o4] (st ++ [.dK false (ks (.bl true) ((nearAt l p).foldl addU acc))]) := by
  obtain ⟨o3', e⟩ := slip_puts (st := st) hl hp (o4 := o4) dig acc o3 (by show _ + 10 ≤ _; omega)
  refine ⟨o3', ?_⟩
  unfold M_slips_of_f1
  have e1 : sForS (iVal (sVal (.str (T [48, 49, 50, 51, 52, 53, 54, 55, 56, 57])))) (gName' 3) M_slips_of_f2 [some (.str (T l)), some (.ref st.length), some (.int (p : Nat)), o3, o4] (st ++ [.dK false (ks (.bl true) acc)]) = .nx [some (.str (T l)), some (.ref st.length), some (.int (p : Nat)), o3', o4] (st ++ [.dK false (ks (.bl true) ((dig.map (put1 l p)).foldl addU acc))]) := by
    rw [for_wkL (ds := dig.map fun c => D.str (T [c])) (st1 := st ++ [.dK false (ks (.bl true) acc)]) (by simp only [iVal_e, sVal_e, R.bind_ok, dIter_T])]
    exact e
  rw [seq_nx e1]
  have b : l.length ≤ big := by unfold big; omega
  have bl : ∀ st : Store, bLen [.str (T l)] st = .ok (.int l.length) st := fun st => bLen_T b
  unfold nearAt
  rw [List.foldl_append]
  by_cases h : p + 1 < l.length
  · have hz : ((p : Int) + 1 < (l.length : Int)) := by omega
    have hk : ((dig.map (put1 l p)).foldl addU acc).length ≤ acc.length + 10 := addU_len (dig.map (put1 l p)) acc
    rw [if_pos h, List.foldl_cons, List.foldl_nil]
    have q1 : ∀ st : Store, dSlice false (.str (T l)) none (some (p : Int)) st = .ok (.str (T (l.take p))) st := fun st => by
      have := dSl_to (st := st) (a := l) (i := (p : Int)) (by omega) b
      rwa [tnat] at this
    have q2 : ∀ st : Store, dSlice false (.str (T l)) (some ((p : Int) + 2)) none st = .ok (.str (T (l.drop (p + 2)))) st := fun st => by
      have := dSl_from (st := st) (a := l) (i := (p : Int) + 2) (by omega) b
      rwa [show ((p : Int) + 2).toNat = p + 2 by omega] at this
    have i1 : ∀ st : Store, dIx pc_kc (.str (T l)) (.int ((p : Int) + 1)) st = .ok (.str (T [l.getD (p + 1) 0])) st := fun st => ix_T (k := p + 1) b (by rw [List.getD_eq_getElem?_getD, List.getElem?_eq_getElem h]; rfl)
    have i2 : ∀ st : Store, dIx pc_kc (.str (T l)) (.int (p : Int)) st = .ok (.str (T [l.getD p 0])) st := fun st => ix_T (k := p) b (by rw [List.getD_eq_getElem?_getD, List.getElem?_eq_getElem hp]; rfl)
    have lt : (l.take p).length ≤ 200 := by rw [List.length_take]; omega
    have ld : (l.drop (p + 2)).length ≤ 200 := by rw [List.length_drop]; omega
    have a1 : ∀ st : Store, dAdd (.str (T (l.take p))) (.str (T [l.getD (p + 1) 0])) st = .ok (.str (T (l.take p ++ [l.getD (p + 1) 0]))) st := fun st => dAdd_T (by show _ + 1 ≤ big; unfold big; omega)
    have a2 : ∀ st : Store, dAdd (.str (T (l.take p ++ [l.getD (p + 1) 0]))) (.str (T [l.getD p 0])) st = .ok (.str (T (l.take p ++ [l.getD (p + 1) 0] ++ [l.getD p 0]))) st := fun st => dAdd_T (by rw [List.length_append]; show _ + 1 + 1 ≤ big; unfold big; omega)
    have a3 : ∀ st : Store, dAdd (.str (T (l.take p ++ [l.getD (p + 1) 0] ++ [l.getD p 0]))) (.str (T (l.drop (p + 2)))) st = .ok (.str (T (swap1 l p))) st := fun st => dAdd_T (by rw [List.length_append, List.length_append]; show _ + 1 + 1 + _ ≤ big; unfold big; omega)
    have s1 := set_ks (st := st) (v := .bl true) (acc := (dig.map (put1 l p)).foldl addU acc) (o := swap1 l p) (by unfold big; omega)
    have et : M_slips_of_t3 [some (.str (T l)), some (.ref st.length), some (.int (p : Nat)), o3', o4] (st ++ [.dK false (ks (.bl true) ((dig.map (put1 l p)).foldl addU acc))]) = .nx [some (.str (T l)), some (.ref st.length), some (.int (p : Nat)), o3', o4] (st ++ [.dK false (ks (.bl true) (addU ((dig.map (put1 l p)).foldl addU acc) (swap1 l p)))]) := by
      unfold M_slips_of_t3
      have e1 : sSetS (sVal (.bl true)) (sVar 1) (sBin dAdd (sBin dAdd (sBin dAdd (sSlice false (sVar 0) pNone (pSome (sVar 2))) (sBin (dIx pc_kc) (sVar 0) (sBin dAdd (sVar 2) (sVal (.int 1))))) (sBin (dIx pc_kc) (sVar 0) (sVar 2))) (sSlice false (sVar 0) (pSome (sBin dAdd (sVar 2) (sVal (.int 2)))) pNone)) [some (.str (T l)), some (.ref st.length), some (.int (p : Nat)), o3', o4] (st ++ [.dK false (ks (.bl true) ((dig.map (put1 l p)).foldl addU acc))]) = .nx [some (.str (T l)), some (.ref st.length), some (.int (p : Nat)), o3', o4] (st ++ [.dK false (ks (.bl true) (addU ((dig.map (put1 l p)).foldl addU acc) (swap1 l p)))]) := by
        unfold sSetS
        simp only [sVal_e, sE2_ok, sVar_0, sVar_s, sBin_e, sSlice_e, R.bind_ok, pNone_e, pSome_e, rPt_int, q1, q2, dAdd_int, i1, i2, a1, a2, a3, s1]
      rw [seq_nx e1, sNx_e]
    simp only [sSeq_e, sIfS_e, tVal_e, sBin_e, sVar_0, sVar_s, sVal_e, R.bind_ok, dAdd_int, sCall_e, sCons_e, sNil_e, bl, cmp_lt, hz, decide_true, rTr_bl, rSt_t, et, then_nx, sNx_e]
  · have hz : ¬ ((p : Int) + 1 < (l.length : Int)) := by omega
    rw [if_neg h, List.foldl_nil]
    simp only [sSeq_e, sIfS_e, tVal_e, sBin_e, sVar_0, sVar_s, sVal_e, R.bind_ok, dAdd_int, sCall_e, sCons_e, sNil_e, bl, cmp_lt, hz, decide_false, rTr_bl, rSt_f, then_nx, sNx_e]
theorem slip_turns {o4 : Option D} : ∀ (is : List Nat) (acc : List (List Nat)) (o2 o3 : Option D), (∀ i ∈ is, i + 2 < l.length) → acc.length + 11 * is.length ≤ 80000 →
    ∃ o2' o3', forL (gName' 2) M_slips_of_f1 (is.map fun (i : Nat) => D.int (2 + (i : Int) * 1)) [some (.str (T l)), some (.ref st.length), o2, o3, o4] (st ++ [.dK false (ks (.bl true) acc)])
      = .nx [some (.str (T l)), some (.ref st.length), o2', o3', o4] (st ++ [.dK false (ks (.bl true) ((is.flatMap fun i => nearAt l (i + 2)).foldl addU acc))])
  | [], acc, o2, o3, _, _ => ⟨o2, o3, rfl⟩
  | i :: is, acc, o2, o3, hi, h => by
    rw [List.length_cons] at h
    have hk := addU_len (nearAt l (i + 2)) acc
    have hk2 := nearAt_len l (i + 2)
    obtain ⟨o3a, e1⟩ := slip_turn (st := st) hl (p := i + 2) (hi i (List.mem_cons_self ..)) (acc := acc) (o3 := o3) (o4 := o4) (by omega)
    obtain ⟨o2', o3', e2⟩ := slip_turns (o4 := o4) is ((nearAt l (i + 2)).foldl addU acc) (some (.int ((i + 2 : Nat) : Int))) o3a (fun j hj => hi j (List.mem_cons_of_mem _ hj)) (by omega)
    refine ⟨o2', o3', ?_⟩
    rw [List.map_cons, forL_cons (gn (by simp : 2 < [some (D.str (T l)), some (.ref st.length), o2, o3, o4].length))]
    have z0 : (2 : Int) + (i : Int) * 1 = ((i + 2 : Nat) : Int) := by omega
    have z : List.set [some (D.str (T l)), some (.ref st.length), o2, o3, o4] 2 (some (D.int ((i + 2 : Nat) : Int))) = [some (.str (T l)), some (.ref st.length), some (.int ((i + 2 : Nat) : Int)), o3, o4] := rfl
    rw [z0, z, e1]
    simp only
    rw [e2, List.flatMap_cons, List.foldl_append]
end
def slipsS (l : List Nat) : List Str := sortS ((((near l).foldl addU []).filter fun o => decide (o ≠ l) && good o).map T)
theorem noRefs_str (n : Nat) : ∀ xs : List Str, noRef.noRefs n (xs.map D.str) = true
  | [] => rfl
  | x :: xs => by
    show (noRef n (.str x) && noRef.noRefs n (xs.map D.str)) = true
    rw [noRefs_str n xs]
    rfl
theorem sort_len (xs : List Str) : (sortS xs).length = xs.length := (sortS_perm xs).length_eq
theorem strs_T (xs : List (List Nat)) : strsOf (xs.map fun o => D.str (T o)) = some (xs.map T) := by
  have : (xs.map fun o => D.str (T o)) = (xs.map T).map D.str := by rw [List.map_map]; rfl
  rw [this, strsOf_map]
theorem kSort_T {xs : List (List Nat)} (h : xs.length ≤ big) : kSortS (xs.map fun o => D.str (T o)) st = .ok (.lst ((sortS (xs.map T)).map D.str)) st := by
  unfold kSortS
  rw [strs_T]
  simp only
  rw [if_pos (by rw [List.length_map]; exact h)]
/-- land and length, as both defs ask first -/
theorem f_slips {l : List Nat} {n : Nat} (hok : okSt st.length st = true) (hs : sizeL (l.take 2) = some n) (hln : l.length = n + 4) : F_slips_of [.str (T l)] st = .ok (.tup ((slipsS l).map D.str)) st := by
  have hsz := size_b hs
  have b : l.length ≤ big := by unfold big; omega
  have bl : ∀ st : Store, bLen [.str (T l)] st = .ok (.int l.length) st := fun st => bLen_T b
  have q1 := dSl_to (st := st) (a := l) (i := 2) (by omega) b
  have q1 : dSlice false (.str (T l)) none (some 2) st = .ok (.str (T (l.take 2))) st := q1
  have lk := ni_lands (st := st) (l.take 2)
  rw [hs] at lk
  have ix := ix_lands (st := st) hs
  have eq : ((l.length : Int) == ((n : Int) + 4)) = true := by rw [beq_iff_eq]; omega
  have e0 : (sIfS (tOr' (tVal (sBin (cmpF pc_kc .NotIn) (sSlice false (sVar 0) pNone (pSome (sVal (.int 2)))) (sVal (.kd 0)))) (tVal (sBin (cmpF pc_kc .NotEq) (sCall bLen (sCons (sVar 0) sNil)) (sBin dAdd (sBin (dIx pc_kc) (sVal (.kd 0)) (sSlice false (sVar 0) pNone (pSome (sVal (.int 2))))) (sVal (.int 4)))))) M_slips_of_t0 sNx) [some (.str (T l)), none, none, none, none] st = .nx [some (.str (T l)), none, none, none, none] st := by
    simp only [sIfS_e, tOr_e, tVal_e, sBin_e, sSlice_e, sVar_0, R.bind_ok, pNone_e, pSome_e, sVal_e, rPt_int, q1, lk, Option.isSome_some, Bool.not_true, rTr_bl, rOr_f, sCall_e, sCons_e, sNil_e, bl, ix, dAdd_int, cmp_neI, eq, rSt_f, sNx_e]
  have e1 : (sAsg (sDictC true []) (gName' 1)) [some (.str (T l)), none, none, none, none] st = .nx [some (.str (T l)), some (.ref st.length), none, none, none] (st ++ [.dK false (ks (.bl true) [])]) := by
    have : sDictC true [] [some (.str (T l)), none, none, none, none] st = .ok (.ref st.length) (st ++ [.dK false (ks (.bl true) [])]) := rfl
    rw [sAsg_e, this, sE2_ok, gAsg_name (by simp)]
    rfl
  obtain ⟨o2, o3, el⟩ := slip_turns (st := st) (l := l) (by omega) (o4 := none) (List.range (l.length - 2)) [] none none (fun i hi => by rw [List.mem_range] at hi; omega) (by rw [List.length_range]; show 0 + _ ≤ _; omega)
  have e2 : (sForS (iRng2' (sVal (.int 2)) (sCall bLen (sCons (sVar 0) sNil))) (gName' 2) M_slips_of_f1) [some (.str (T l)), some (.ref st.length), none, none, none] (st ++ [.dK false (ks (.bl true) [])]) = .nx [some (.str (T l)), some (.ref st.length), o2, o3, none] (st ++ [.dK false (ks (.bl true) ((near l).foldl addU []))]) := by
    have hit := rng2_e (f := sVal (.int 2)) (g := sCall bLen (sCons (sVar 0) sNil)) (ρ := [some (.str (T l)), some (.ref st.length), none, none, none]) (st := st ++ [.dK false (ks (.bl true) [])]) (st1 := st ++ [.dK false (ks (.bl true) [])]) (st2 := st ++ [.dK false (ks (.bl true) [])]) (a := 2) (b := (l.length : Int)) (by simp only [sVal_e]) (by simp only [sCall_e, sCons_e, sVar_0, R.bind_ok, sNil_e, bl]) (by decide) (by decide) (by omega) (by omega)
    rw [for_wkL hit]
    have z : ((l.length : Int) - 2).toNat = l.length - 2 := by omega
    rw [z]
    exact el
  have hln2 : ((near l).foldl addU []).length ≤ 5000 := by
    have h1 := addU_len (near l) []
    have h2 := near_len l
    rw [List.length_nil] at h1
    omega
  have hr : M_slips_of ([.str (T l)].map some ++ List.replicate (S_slips_of.N.length - 1) none) st = .rt (.tup ((slipsS l).map D.str)) (st ++ [.dK false (ks (.bl true) ((near l).foldl addU []))]) := by
    show M_slips_of [some (.str (T l)), none, none, none, none] st = _
    unfold M_slips_of
    rw [seq_nx e0, seq_nx e1, seq_nx e2]
    have hit : iVal (sVar 1) [some (.str (T l)), some (.ref st.length), o2, o3, none] (st ++ [.dK false (ks (.bl true) ((near l).foldl addU []))]) = .ok ⟨cList (((near l).foldl addU []).map fun o => D.str (T o)), (((near l).foldl addU []).map fun o => D.str (T o)).length + 1, some st.length⟩ (st ++ [.dK true (ks (.bl true) ((near l).foldl addU []))]) := by
      have e : dIter (.ref st.length) (st ++ [.dK false (ks (.bl true) ((near l).foldl addU []))]) = (match (st ++ [SObj.dK false (ks (.bl true) ((near l).foldl addU []))])[st.length]? with
        | some (.lst _) => .ok (wkR st.length) (st ++ [.dK false (ks (.bl true) ((near l).foldl addU []))])
        | some (.dK lk kvs) => if lk then .ok (wkL (kvs.map fun p => keyD p.1)) (st ++ [.dK false (ks (.bl true) ((near l).foldl addU []))]) else .ok ⟨cList (kvs.map fun p => keyD p.1), kvs.length + 1, some st.length⟩ (List.set (st ++ [.dK false (ks (.bl true) ((near l).foldl addU []))]) st.length (.dK true kvs))
        | _ => .stuck) := rfl
      simp only [iVal_e, sVar_0, sVar_s, R.bind_ok]
      rw [e, at_end]
      simp only [Bool.false_eq_true, if_false, keys_ks, set_end]
      unfold ks
      rw [List.length_map, List.length_map]
    have hg := gen_lk (k := kSortS) (own := [4]) hit (compL_map (gt := gName' 4) (test := tAnd' (tVal (sBin (cmpF pc_kc .NotEq) (sVar 4) (sVar 0))) (tVal (sCall F_is_good (sCons (sVar 4) sNil)))) (elt := sVar 4) (st := st ++ [.dK true (ks (.bl true) ((near l).foldl addU []))]) (ρ0 := wipeD [some (.str (T l)), some (.ref st.length), o2, o3, none] [4]) (fun o => D.str (T o)) (fun o => decide (o ≠ l) && good o) (fun o => D.str (T o)) ((near l).foldl addU []) fun o ho => ⟨[some (.str (T l)), some (.ref st.length), o2, o3, some (.str (T o))], rfl, by
      have hlo : o.length = l.length := by
        rcases addU_mem (near l) [] ho with h | h
        · cases h
        · exact near_mem_len h
      have hgo : F_is_good [.str (T o)] (st ++ [.dK true (ks (.bl true) ((near l).foldl addU []))]) = .ok (.bl (good o)) (st ++ [.dK true (ks (.bl true) ((near l).foldl addU []))]) := f_is_good (by omega)
      have hne : (!(T o == T l)) = decide (o ≠ l) := by
        rw [T_beq]
        by_cases h : o = l <;> simp [h]
      simp only [tAnd_e, tVal_e, sBin_e, sVar_0, sVar_s, R.bind_ok, cmp_neS, hne, rTr_bl]
      cases decide (o ≠ l) with
      | false => simp only [rAnd_f, Bool.false_and]
      | true => simp only [rAnd_t, sCall_e, sCons_e, sVar_0, sVar_s, R.bind_ok, sNil_e, hgo, rTr_bl, Bool.true_and], fun _ => by simp only [sVar_0, sVar_s]⟩)
    rw [kSort_T (Nat.le_trans (List.length_filter_le ..) (by unfold big; omega))] at hg
    have hu : unlkR (some st.length) (R.ok (D.lst ((slipsS l).map D.str)) (st ++ [.dK true (ks (.bl true) ((near l).foldl addU []))])) = .ok (.lst ((slipsS l).map D.str)) (st ++ [.dK false (ks (.bl true) ((near l).foldl addU []))]) := by
      have e : unlk (some st.length) (st ++ [SObj.dK true (ks (.bl true) ((near l).foldl addU []))]) = some (st ++ [.dK false (ks (.bl true) ((near l).foldl addU []))]) := by
        unfold unlk
        simp only [at_end, set_end]
      unfold unlkR
      simp only [e]
    have ht : bTupS [.lst ((slipsS l).map D.str)] (st ++ [.dK false (ks (.bl true) ((near l).foldl addU []))]) = .ok (.tup ((slipsS l).map D.str)) (st ++ [.dK false (ks (.bl true) ((near l).foldl addU []))]) := rfl
    have hg2 := hg.trans hu
    simp only [sSeq_e, sRet_e, sCall_e, sCons_e, hg2, R.bind_ok, sNil_e, ht, sE2_ok, then_rt]
  have e := semF_eq (esc := false) (np := 1) den_slips_of rfl hr
  unfold F_slips_of
  rw [e]
  show leave false st.length (.tup ((slipsS l).map D.str)) (st ++ [.dK false (ks (.bl true) ((near l).foldl addU []))]) = _
  unfold leave
  rw [if_neg Bool.false_ne_true, if_neg (by rw [List.length_append]; simp)]
  have tk : (st ++ [SObj.dK false (ks (.bl true) ((near l).foldl addU []))]).take st.length = st := List.take_left
  have hn : noRef st.length (.tup ((slipsS l).map D.str)) = true := by
    show noRef.noRefs st.length ((slipsS l).map D.str) = true
    exact noRefs_str _ _
  simp only [tk, hn, hok, Bool.and_self, if_true]
end
end K03

namespace K03
open L2 PyProof.Rows PySem.Spec PySem Bk
section
variable {st : Store}
theorem count63 : ∀ l : List Nat, cnt 63 l = ((l.count 63 : Nat) : Int)
  | [] => rfl
  | c :: l => by
    rw [cnt_cons, count63 l, List.count_cons]
    by_cases h : c = 63 <;> simp [h] <;> omega
theorem mCount63 (l : List Nat) : mCount (T l) [.str (T [63])] st = .ok (.int (l.count 63 : Nat)) st := by
  rw [mCount_T]
  have := count_cnt (T l) 63
  exact congrArg (fun z => R.ok (D.int z) st) (this.trans (count63 l))
theorem miss_step {t : D} {rs : List (List Nat)} {c k : Nat} {o3 o4 : Option D} (hk : ∀ r ∈ rs, r.length = k) (hk2 : k ≤ 1000) (hb : (rowStep rs c).length ≤ big) :
    M_missing_f1 [some t, some (.lst (rs.map fun r => D.str (T r))), some (.str (T [c])), o3, o4] st = .nx [some t, some (.lst ((rowStep rs c).map fun r => D.str (T r))), some (.str (T [c])), o3, o4] st := by
  unfold M_missing_f1
  have hc := compL2_map (st := st) (gt := gName' 3) (g2 := gName' 4) (own2 := [4]) (it2 := iVal (sIf (tVal (sBin (cmpF pc_kc .Eq) (sVar 2) (sVal (.str (T [63]))))) (sVal (.str (T [48, 49, 50, 51, 52, 53, 54, 55, 56, 57]))) (sVar 2))) (elt := sBin dAdd (sVar 3) (sVar 4)) (ρ0 := wipeD [some t, some (.lst (rs.map fun r => D.str (T r))), some (.str (T [c])), o3, o4] [3, 4]) (fun r => D.str (T r)) (fun _ => opts c) (fun d => D.str (T [d])) (fun r d => D.str (T (r ++ [d]))) rs fun r hr =>
    ⟨[some t, some (.lst (rs.map fun r => D.str (T r))), some (.str (T [c])), some (.str (T r)), none], rfl, by
      unfold opts
      by_cases h : c = 63
      · subst h
        have q : (T [63] == T [63]) = true := beq_self_eq_true _
        simp only [iVal_e, sIf_e, tVal_e, sBin_e, sVar_0, sVar_s, sVal_e, R.bind_ok, cmp_eqS, q, rTr_bl, rIf_t, dIter_T, if_true]
      · have q : (T [c] == T [63]) = false := by rw [T_beq]; simp [h]
        simp only [iVal_e, sIf_e, tVal_e, sBin_e, sVar_0, sVar_s, sVal_e, R.bind_ok, cmp_eqS, q, rTr_bl, rIf_f, dIter_T, if_neg h], fun d hd =>
      ⟨[some t, some (.lst (rs.map fun r => D.str (T r))), some (.str (T [c])), some (.str (T r)), some (.str (T [d]))], rfl, by
        have a : dAdd (.str (T r)) (.str (T [d])) st = .ok (.str (T (r ++ [d]))) st := dAdd_T (by have := hk r hr; show _ + 1 ≤ big; unfold big; omega)
        simp only [sBin_e, sVar_0, sVar_s, R.bind_ok, a]⟩⟩
  have e := comp2_wkL (m := false) (own := [3, 4]) (it := iVal (sVar 1)) (ρ := [some t, some (.lst (rs.map fun r => D.str (T r))), some (.str (T [c])), o3, o4]) (st := st) (by simp only [iVal_e, sVar_0, sVar_s, R.bind_ok, dIter_lst]) hc
  have z : (rs.flatMap fun r => (opts c).map fun d => D.str (T (r ++ [d]))) = (rowStep rs c).map fun r => D.str (T r) := by
    unfold rowStep
    rw [List.map_flatMap]
    refine congrArg (fun f => rs.flatMap f) (funext fun r => ?_)
    rw [List.map_map]
    rfl
  rw [z, mkB_f (by rw [List.length_map]; exact hb)] at e
  have e1 : sAsg (sComp2 false [3, 4] [4] (iVal (sVar 1)) (gName' 3) (iVal (sIf (tVal (sBin (cmpF pc_kc .Eq) (sVar 2) (sVal (.str (T [63]))))) (sVal (.str (T [48, 49, 50, 51, 52, 53, 54, 55, 56, 57]))) (sVar 2))) (gName' 4) tYesE (sBin dAdd (sVar 3) (sVar 4))) (gName' 1) [some t, some (.lst (rs.map fun r => D.str (T r))), some (.str (T [c])), o3, o4] st = .nx [some t, some (.lst ((rowStep rs c).map fun r => D.str (T r))), some (.str (T [c])), o3, o4] st := by
    rw [sAsg_e, e, sE2_ok, gAsg_name (by simp)]
    rfl
  rw [seq_nx e1, sNx_e]
theorem rowStep_fit {rs : List (List Nat)} {c : Nat} {cs : List Nat} (h : rs.length * 10 ^ ((c :: cs).count 63) ≤ 1000000) : (rowStep rs c).length * 10 ^ (cs.count 63) ≤ 1000000 := by
  have h1 := rowStep_len rs c
  rw [List.count_cons] at h
  by_cases hc : c = 63
  · rw [if_pos hc] at h1
    subst hc
    simp only [beq_self_eq_true, if_true, Nat.pow_succ] at h
    refine Nat.le_trans (Nat.mul_le_mul_right _ h1) ?_
    rw [Nat.mul_assoc, Nat.mul_comm 10]
    exact h
  · rw [if_neg hc, Nat.mul_one] at h1
    have : (c == 63) = false := by simp [hc]
    rw [this] at h
    simp only [Bool.false_eq_true, if_false, Nat.add_zero] at h
    exact Nat.le_trans (Nat.mul_le_mul_right _ h1) h
theorem fit_len {n k : Nat} (h : n * 10 ^ k ≤ 1000000) : n ≤ 1000000 := Nat.le_trans (Nat.le_mul_of_pos_right n (Nat.pow_pos (by omega))) h
theorem miss_loop {t : D} {o3 o4 : Option D} : ∀ (cs : List Nat) (rs : List (List Nat)) (k : Nat) (o2 : Option D), (∀ r ∈ rs, r.length = k) → k + cs.length ≤ 1000 → rs.length * 10 ^ (cs.count 63) ≤ 1000000 →
    ∃ o2', forL (gName' 2) M_missing_f1 (cs.map fun c => D.str (T [c])) [some t, some (.lst (rs.map fun r => D.str (T r))), o2, o3, o4] st = .nx [some t, some (.lst ((cs.foldl rowStep rs).map fun r => D.str (T r))), o2', o3, o4] st
  | [], rs, k, o2, _, _, _ => ⟨o2, rfl⟩
  | c :: cs, rs, k, o2, hk, hk2, hf => by
    rw [List.length_cons] at hk2
    have hf2 := rowStep_fit hf
    obtain ⟨o2', e⟩ := miss_loop (t := t) (o3 := o3) (o4 := o4) cs (rowStep rs c) (k + 1) (some (.str (T [c]))) (rowStep_each hk) (by omega) hf2
    refine ⟨o2', ?_⟩
    rw [List.map_cons, forL_cons (gn (by simp : 2 < [some t, some (.lst (rs.map fun r => D.str (T r))), o2, o3, o4].length))]
    have z : List.set [some t, some (.lst (rs.map fun r => D.str (T r))), o2, o3, o4] 2 (some (D.str (T [c]))) = [some t, some (.lst (rs.map fun r => D.str (T r))), some (.str (T [c])), o3, o4] := rfl
    rw [z, miss_step hk (by omega) (by have := fit_len hf2; unfold big; omega)]
    exact e
def missS (l : List Nat) : List Str := sortS (((rowsOf l).filter good).map T)
theorem rows_each : ∀ (cs : List Nat) (rs : List (List Nat)) (k : Nat), (∀ r ∈ rs, r.length = k) → ∀ r ∈ cs.foldl rowStep rs, r.length = k + cs.length
  | [], _, _, h, r, hr => h r hr
  | c :: cs, rs, k, h, r, hr => by
    have := rows_each cs (rowStep rs c) (k + 1) (rowStep_each h) r hr
    rw [List.length_cons]
    omega
theorem rows_fit : ∀ (cs : List Nat) (rs : List (List Nat)), rs.length * 10 ^ (cs.count 63) ≤ 1000000 → (cs.foldl rowStep rs).length ≤ 1000000
  | [], rs, h => fit_len h
  | c :: cs, rs, h => rows_fit cs _ (rowStep_fit h)
theorem f_missing {l : List Nat} {n : Nat} (hs : sizeL (l.take 2) = some n) (hln : l.length = n + 4) (hq : l.count 63 ≤ 3) : F_missing [.str (T l)] st = .ok (.tup ((missS l).map D.str)) st := by
  have hsz := size_b hs
  have b : l.length ≤ big := by unfold big; omega
  have bl : bLen [.str (T l)] st = .ok (.int l.length) st := bLen_T b
  have q1 : dSlice false (.str (T l)) none (some 2) st = .ok (.str (T (l.take 2))) st := dSl_to (i := 2) (by omega) b
  have lk := ni_lands (st := st) (l.take 2)
  rw [hs] at lk
  have ix := ix_lands (st := st) hs
  have eq : ((l.length : Int) == ((n : Int) + 4)) = true := by rw [beq_iff_eq]; omega
  have n3 : ¬ ((3 : Int) < (l.count 63 : Nat)) := by omega
  have c63 := mCount63 (st := st) l
  have e0 : (sIfS (tOr' (tVal (sBin (cmpF pc_kc .NotIn) (sSlice false (sVar 0) pNone (pSome (sVal (.int 2)))) (sVal (.kd 0)))) (tOr' (tVal (sBin (cmpF pc_kc .NotEq) (sCall bLen (sCons (sVar 0) sNil)) (sBin dAdd (sBin (dIx pc_kc) (sVal (.kd 0)) (sSlice false (sVar 0) pNone (pSome (sVal (.int 2))))) (sVal (.int 4))))) (tVal (sBin (cmpF pc_kc .Gt) (sMeth "count" (sVar 0) (sCons (sVal (.str (T [63]))) sNil)) (sVal (.int 3)))))) M_missing_t0 sNx) [some (.str (T l)), none, none, none, none] st = .nx [some (.str (T l)), none, none, none, none] st := by
    simp only [sIfS_e, tOr_e, tVal_e, sBin_e, sSlice_e, sVar_0, R.bind_ok, pNone_e, pSome_e, sVal_e, rPt_int, q1, lk, Option.isSome_some, Bool.not_true, rTr_bl, rOr_f, sCall_e, sCons_e, sNil_e, bl, ix, dAdd_int, cmp_neI, eq, sMeth_e, mo_count, mtRun_some, c63, cmp_gt, n3, decide_false, rSt_f, sNx_e]
  have e1 : (sAsg (sLstE false (sCons (sVal (.str (T []))) sNil)) (gName' 1)) [some (.str (T l)), none, none, none, none] st = .nx [some (.str (T l)), some (.lst ([[]].map fun r => D.str (T r))), none, none, none] st := by
    simp only [sAsg_e, sLstE_e, sCons_e, sVal_e, R.bind_ok, sNil_e, mkL_f (st := st) (ds := [D.str (T [])]) (by decide), sE2_ok]
    rw [gAsg_name (by simp)]
    rfl
  have hfit : [([] : List Nat)].length * 10 ^ (l.count 63) ≤ 1000000 := by
    rw [List.length_singleton, Nat.one_mul]
    exact Nat.le_trans (Nat.pow_le_pow_right (by omega) hq) (by decide)
  obtain ⟨o2, el⟩ := miss_loop (st := st) (t := .str (T l)) (o3 := none) (o4 := none) l [[]] 0 none (by simp) (by omega) hfit
  have e2 : (sForS (iVal (sVar 0)) (gName' 2) M_missing_f1) [some (.str (T l)), some (.lst ([[]].map fun r => D.str (T r))), none, none, none] st = .nx [some (.str (T l)), some (.lst ((rowsOf l).map fun r => D.str (T r))), o2, none, none] st := by
    rw [for_wkL (ds := l.map fun c => D.str (T [c])) (st1 := st) (by simp only [iVal_e, sVar_0, R.bind_ok, dIter_T])]
    exact el
  have hlen := rows_each l [[]] 0 (by simp)
  have hr : M_missing ([.str (T l)].map some ++ List.replicate (S_missing.N.length - 1) none) st = .rt (.tup ((missS l).map D.str)) st := by
    show M_missing [some (.str (T l)), none, none, none, none] st = _
    unfold M_missing
    rw [seq_nx e0, seq_nx e1, seq_nx e2]
    have hg := gen_wkL (k := kSortS) (own := [4]) (it := iVal (sVar 1)) (ρ := [some (.str (T l)), some (.lst ((rowsOf l).map fun r => D.str (T r))), o2, none, none]) (st := st) (by simp only [iVal_e, sVar_0, sVar_s, R.bind_ok, dIter_lst]) (compL_map (gt := gName' 4) (test := tVal (sCall F_is_good (sCons (sVar 4) sNil))) (elt := sVar 4) (st := st) (ρ0 := wipeD [some (.str (T l)), some (.lst ((rowsOf l).map fun r => D.str (T r))), o2, none, none] [4]) (fun o => D.str (T o)) good (fun o => D.str (T o)) (rowsOf l) fun o ho => ⟨[some (.str (T l)), some (.lst ((rowsOf l).map fun r => D.str (T r))), o2, none, some (.str (T o))], rfl, by
      have hlo := hlen o ho
      have hgo : F_is_good [.str (T o)] st = .ok (.bl (good o)) st := f_is_good (by omega)
      simp only [tVal_e, sCall_e, sCons_e, sVar_0, sVar_s, R.bind_ok, sNil_e, hgo, rTr_bl], fun _ => by simp only [sVar_0, sVar_s]⟩)
    rw [kSort_T (Nat.le_trans (List.length_filter_le ..) (by have := rows_fit l [[]] hfit; unfold big; unfold rowsOf; omega))] at hg
    have ht : bTupS [.lst ((missS l).map D.str)] st = .ok (.tup ((missS l).map D.str)) st := rfl
    have hg2 : _ = R.ok (D.lst ((missS l).map D.str)) st := hg
    simp only [sSeq_e, sRet_e, sCall_e, sCons_e, hg2, R.bind_ok, sNil_e, ht, sE2_ok, then_rt]
  have e := semF_eq (esc := false) (np := 1) den_missing rfl hr
  unfold F_missing
  rw [e]
  simp
end
end K03

namespace K03
open L2 PyProof.Rows PySem.Spec PySem Bk
/-! dice -/
abbrev DS (a b c : Int) : Store := [.lst [.int a, .int b, .int c]]
theorem dPow_int {i j : Int} {st : Store} (h : 0 ≤ j ∧ j ≤ 1000000 ∧ i.natAbs < 2 ^ 64) : dPow (.int i) (.int j) st = .ok (.int (i ^ j.toNat)) st := by
  show (if 0 ≤ j ∧ j ≤ 1000000 ∧ i.natAbs < 2 ^ 64 then _ else _) = _
  rw [if_pos h]
theorem f_dice (z : Int) : ∃ a b c : Int, F_law_dice [.int z] [] = .ok (.ref 0) (DS a b c) := by
  have hr : ∃ a b c : Int, M_law_dice ([.int z].map some ++ List.replicate (S_law_dice.N.length - 1) none) [] = .rt (.ref 0) (DS a b c) := by
    show ∃ a b c : Int, M_law_dice [some (.int z)] [] = .rt (.ref 0) (DS a b c)
    unfold M_law_dice
    have m1 : dMod (.int z) (.int 1009) [] = .ok (.int (z.fmod 1009)) [] := dMod_int (by decide)
    have p1 : dPow (.int 10) (.int 18) [] = .ok (.int (10 ^ 18)) [] := dPow_int (by decide)
    have l3 : ∀ x y w : D, mkL true [x, y, w] [] = .ok (.ref 0) [.lst [x, y, w]] := fun x y w => mkL_t (by show 3 ≤ big; decide)
    by_cases h1 : (0 : Int) - 10 < z
    · by_cases h2 : z < 10
      · refine ⟨if z < 0 then -z else z, 0, 2, ?_⟩
        simp only [sSeq_e, sIfS_e, tVal_e, sChain_e, sBin_e, sVal_e, R.bind_ok, dSub_int, sVar_0, cmp_lt, h1, h2, decide_true, rCh_t, rTr_bl, rSt_t, M_law_dice_t0, sRet_e, sLstE_e, sCons_e, sCall_e, sNil_e, bAbs_int, l3, sE2_ok, then_rt]
      · refine ⟨z, 1 + z.fmod 1009, if decide ((10 : Int) ^ 18 ≤ z) = true then 1 else 0, ?_⟩
        · simp only [sSeq_e, sIfS_e, tVal_e, sChain_e, sBin_e, sVal_e, R.bind_ok, dSub_int, sVar_0, cmp_lt, h1, h2, decide_true, decide_false, rCh_t, rTr_bl, rSt_f, sNx_e, then_nx, sRet_e, sLstE_e, sCons_e, sCall_e, sNil_e, bInt_int, m1, p1, dAdd_int, cmp_ge, bInt_bl, l3, sE2_ok, then_rt]
    · refine ⟨z, 1 + z.fmod 1009, if decide ((10 : Int) ^ 18 ≤ z) = true then 1 else 0, ?_⟩
      · simp only [sSeq_e, sIfS_e, tVal_e, sChain_e, sBin_e, sVal_e, R.bind_ok, dSub_int, sVar_0, cmp_lt, h1, decide_false, rCh_f, rTr_bl, rSt_f, sNx_e, then_nx, sRet_e, sLstE_e, sCons_e, sCall_e, sNil_e, bInt_int, m1, p1, dAdd_int, cmp_ge, bInt_bl, l3, sE2_ok, then_rt]
  obtain ⟨a, b, c, hr⟩ := hr
  refine ⟨a, b, c, ?_⟩
  have e := semF_eq (esc := true) (np := 1) den_law_dice rfl hr
  unfold F_law_dice
  rw [e]
  rfl
theorem mulf {i j : Int} (h1 : -(2 ^ 64) < j) (h2 : j < 2 ^ 64) : mulFit i j = true := by
  unfold mulFit
  rw [decide_eq_true h1, decide_eq_true h2]
  simp
theorem f_roll (a b c : Int) (m : Nat) (h0 : 0 < m) (h1 : m ≤ 100000000) : ∃ (r : Nat) (a' b' c' : Int), r < m ∧ F_law_roll [.ref 0, .int m] (DS a b c) = .ok (.int r) (DS a' b' c') := by
  have hpos : (0 : Int) < (m : Int) := by omega
  have fmr : ∀ x : Int, x.fmod m = ((x.fmod m).toNat : Int) ∧ (x.fmod m).toNat < m := fun x => by
    have q1 := Int.fmod_nonneg_of_pos x hpos
    have q2 := Int.fmod_lt_of_pos x hpos
    omega
  have dm : ∀ (x : Int) (st : Store), dMod (.int x) (.int m) st = .ok (.int (x.fmod m)) st := fun x st => dMod_int (by omega)
  have dd : ∀ (x : Int) (st : Store), dDiv (.int x) (.int m) st = .ok (.int (x.fdiv m)) st := fun x st => dDiv_int (by
    unfold divFit
    have q1 : decide ((m : Int) ≠ 0) = true := decide_eq_true (by omega)
    have q2 : decide ((m : Int).natAbs < 1073741824) = true := decide_eq_true (by omega)
    rw [q1, q2]
    rfl)
  have i0 : ∀ a b c : Int, dIx pc_kc (.ref 0) (.int 0) (DS a b c) = .ok (.int a) (DS a b c) := fun _ _ _ => rfl
  have i1 : ∀ a b c : Int, dIx pc_kc (.ref 0) (.int 1) (DS a b c) = .ok (.int b) (DS a b c) := fun _ _ _ => rfl
  have i2 : ∀ a b c : Int, dIx pc_kc (.ref 0) (.int 2) (DS a b c) = .ok (.int c) (DS a b c) := fun _ _ _ => rfl
  have s0 : ∀ a b c v : Int, dSet (.ref 0) (.int 0) (.int v) (DS a b c) = .ok () (DS v b c) := fun _ _ _ _ => rfl
  have s1 : ∀ a b c v : Int, dSet (.ref 0) (.int 1) (.int v) (DS a b c) = .ok () (DS a v c) := fun _ _ _ _ => rfl
  have s2 : ∀ a b c v : Int, dSet (.ref 0) (.int 2) (.int v) (DS a b c) = .ok () (DS a b v) := fun _ _ _ _ => rfl
  have hr : ∃ (r : Nat) (a' b' c' : Int), r < m ∧ M_law_roll ([.ref 0, .int m].map some ++ List.replicate (S_law_roll.N.length - 2) none) (DS a b c) = .rt (.int r) (DS a' b' c') := by
    show ∃ (r : Nat) (a' b' c' : Int), r < m ∧ M_law_roll [some (.ref 0), some (.int m), none] (DS a b c) = .rt (.int r) (DS a' b' c')
    have t0 : M_law_roll_t0 [some (.ref 0), some (.int m), none] (DS a b c) = .rt (.int ((a.fmod m).toNat : Nat)) (DS (a.fdiv m) b c) := by
      unfold M_law_roll_t0
      have e1 : (sAsg (sBin dMod (sCall bInt (sCons (sBin (dIx pc_kc) (sVar 0) (sVal (.int 0))) sNil)) (sVar 1)) (gName' 2)) [some (.ref 0), some (.int m), none] (DS a b c) = .nx [some (.ref 0), some (.int m), some (.int ((a.fmod m).toNat : Nat))] (DS a b c) := by
        simp only [sAsg_e, sBin_e, sCall_e, sCons_e, sVar_0, sVar_s, sVal_e, R.bind_ok, i0, sNil_e, bInt_int, dm, sE2_ok]
        rw [gAsg_name (by simp), ← (fmr a).1]
        rfl
      have e2 : (sSetS (sBin dDiv (sBin (dIx pc_kc) (sVar 0) (sVal (.int 0))) (sVar 1)) (sVar 0) (sVal (.int 0))) [some (.ref 0), some (.int m), some (.int ((a.fmod m).toNat : Nat))] (DS a b c) = .nx [some (.ref 0), some (.int m), some (.int ((a.fmod m).toNat : Nat))] (DS (a.fdiv m) b c) := by
        unfold sSetS
        simp only [sBin_e, sVar_0, sVar_s, sVal_e, R.bind_ok, i0, dd, sE2_ok, s0]
      rw [seq_nx e1, seq_nx e2]
      simp only [sSeq_e, sRet_e, sVar_0, sVar_s, sE2_ok, then_rt]
    unfold M_law_roll
    have hcond : ∃ q : Bool, (tOr' (tVal (sBin (cmpF pc_kc .Eq) (sBin (dIx pc_kc) (sVar 0) (sVal (.int 2))) (sVal (.int 2)))) (tAnd' (tVal (sBin (cmpF pc_kc .Eq) (sBin (dIx pc_kc) (sVar 0) (sVal (.int 2))) (sVal (.int 1)))) (tVal (sBin (cmpF pc_kc .Gt) (sBin (dIx pc_kc) (sVar 0) (sVal (.int 0))) (sVal (.int 0)))))) [some (.ref 0), some (.int m), none] (DS a b c) = .ok q (DS a b c) := by
      cases q1 : (c == 2) with
      | true => exact ⟨true, by simp only [tOr_e, tVal_e, sBin_e, sVar_0, sVal_e, R.bind_ok, i2, cmp_eqI, rTr_bl, q1, rOr_t]⟩
      | false =>
        cases q2 : (c == 1) with
        | false => exact ⟨false, by simp only [tOr_e, tAnd_e, tVal_e, sBin_e, sVar_0, sVal_e, R.bind_ok, i2, cmp_eqI, rTr_bl, q1, q2, rOr_f, rAnd_f]⟩
        | true => exact ⟨decide (0 < a), by simp only [tOr_e, tAnd_e, tVal_e, sBin_e, sVar_0, sVal_e, R.bind_ok, i2, i0, cmp_eqI, cmp_gt, rTr_bl, q1, q2, rOr_f, rAnd_t]⟩
    obtain ⟨q, hc⟩ := hcond
    cases q with
    | true =>
      refine ⟨(a.fmod m).toNat, a.fdiv m, b, c, (fmr a).2, ?_⟩
      rw [sSeq_e, sIfS_e, hc, rSt_t, t0, then_rt]
    | false =>
      have hc2 := hc
      have n1 : ¬ ((100000000 : Int) < (m : Int)) := by omega
      have m1 : ∀ x : Int, mulFit x 48271 = true := fun x => mulf (by decide) (by decide)
      have m2 : ∀ x : Int, mulFit x 69621 = true := fun x => mulf (by decide) (by decide)
      have u1 : ∀ (x : Int) (st : Store), dMul (.int x) (.int 48271) st = .ok (.int (x * 48271)) st := fun x st => dMul_int (m1 x)
      have u2 : ∀ (x : Int) (st : Store), dMul (.int x) (.int 69621) st = .ok (.int (x * 69621)) st := fun x st => dMul_int (m2 x)
      have u3 : ∀ (x : Int) (st : Store), dMod (.int x) (.int 2147483647) st = .ok (.int (x.fmod 2147483647)) st := fun x st => dMod_int (by decide)
      have u4 : ∀ (x : Int) (st : Store), dDiv (.int x) (.int 7) st = .ok (.int (x.fdiv 7)) st := fun x st => dDiv_int (by decide)
      have e0 : (sIfS (tOr' (tVal (sBin (cmpF pc_kc .Eq) (sBin (dIx pc_kc) (sVar 0) (sVal (.int 2))) (sVal (.int 2)))) (tAnd' (tVal (sBin (cmpF pc_kc .Eq) (sBin (dIx pc_kc) (sVar 0) (sVal (.int 2))) (sVal (.int 1)))) (tVal (sBin (cmpF pc_kc .Gt) (sBin (dIx pc_kc) (sVar 0) (sVal (.int 0))) (sVal (.int 0)))))) M_law_roll_t0 sNx) [some (.ref 0), some (.int m), none] (DS a b c) = .nx [some (.ref 0), some (.int m), none] (DS a b c) := by
        rw [sIfS_e, hc2, rSt_f, sNx_e]
      have e1 : (sSetS (sVal (.int 0)) (sVar 0) (sVal (.int 2))) [some (.ref 0), some (.int m), none] (DS a b c) = .nx [some (.ref 0), some (.int m), none] (DS a b 0) := by
        unfold sSetS
        simp only [sVar_0, sVal_e, sE2_ok, s2]
      have e2 : (sIfS (tVal (sBin (cmpF pc_kc .Gt) (sVar 1) (sVal (.int 100000000)))) M_law_roll_t1 sNx) [some (.ref 0), some (.int m), none] (DS a b 0) = .nx [some (.ref 0), some (.int m), none] (DS a b 0) := by
        simp only [sIfS_e, tVal_e, sBin_e, sVar_0, sVar_s, sVal_e, R.bind_ok, cmp_gt, n1, decide_false, rTr_bl, rSt_f, sNx_e]
      have e3 : (sSetS (sBin dMod (sCall bInt (sCons (sBin dAdd (sBin dAdd (sBin dMul (sBin (dIx pc_kc) (sVar 0) (sVal (.int 0))) (sVal (.int 48271))) (sBin dMul (sBin (dIx pc_kc) (sVar 0) (sVal (.int 1))) (sVal (.int 69621)))) (sVal (.int 11))) sNil)) (sVal (.int 2147483647))) (sVar 0) (sVal (.int 0))) [some (.ref 0), some (.int m), none] (DS a b 0) = .nx [some (.ref 0), some (.int m), none] (DS ((a * 48271 + b * 69621 + 11).fmod 2147483647) b 0) := by
        unfold sSetS
        simp only [sBin_e, sCall_e, sCons_e, sVar_0, sVal_e, R.bind_ok, i0, i1, u1, u2, u3, dAdd_int, sNil_e, bInt_int, sE2_ok, s0]
      have e4 : (sSetS (sBin dAdd (sBin (dIx pc_kc) (sVar 0) (sVal (.int 1))) (sVal (.int 1))) (sVar 0) (sVal (.int 1))) [some (.ref 0), some (.int m), none] (DS ((a * 48271 + b * 69621 + 11).fmod 2147483647) b 0) = .nx [some (.ref 0), some (.int m), none] (DS ((a * 48271 + b * 69621 + 11).fmod 2147483647) (b + 1) 0) := by
        unfold sSetS
        simp only [sBin_e, sVar_0, sVal_e, R.bind_ok, i1, dAdd_int, sE2_ok, s1]
      refine ⟨((((a * 48271 + b * 69621 + 11).fmod 2147483647).fdiv 7).fmod m).toNat, (a * 48271 + b * 69621 + 11).fmod 2147483647, b + 1, 0, (fmr (((a * 48271 + b * 69621 + 11).fmod 2147483647).fdiv 7)).2, ?_⟩
      · rw [seq_nx e0, seq_nx e1, seq_nx e2, seq_nx e3, seq_nx e4]
        simp only [sSeq_e, sRet_e, sBin_e, sCall_e, sCons_e, sVar_0, sVar_s, sVal_e, R.bind_ok, i0, u4, sNil_e, bInt_int, dm, sE2_ok, then_rt]
        rw [← (fmr _).1]
  obtain ⟨r, a', b', c', hlt, hr⟩ := hr
  refine ⟨r, a', b', c', hlt, ?_⟩
  have e := semF_eq (esc := false) (np := 2) den_law_roll rfl hr
  unfold F_law_roll
  rw [e]
  rfl
theorem f_rounds (ns : List Int) : ∃ a b c : Int, F_law_rounds [.scr ns, .int 1] [] = .ok (.lst [.ref 0]) (DS a b c) := by
  have key : ∃ z : Int, ∀ st, st = ([] : Store) → (sAsg (sSlice false (sVar 0) pNone (pSome (sVar 1))) (gName' 2)) [some (.scr ns), some (.int 1), none, none] st = .nx [some (.scr ns), some (.int 1), some (.lst ((ns.take 1).map D.int)), none] st ∧ (sIfS (tVal (sBin (cmpF pc_kc .Eq) (sVar 2) (sLstE false sNil))) M_law_rounds_t0 sNx) [some (.scr ns), some (.int 1), some (.lst ((ns.take 1).map D.int)), none] st = .nx [some (.scr ns), some (.int 1), some (.lst [.int z]), none] st := by
    have h0 : ∀ st : Store, (sAsg (sSlice false (sVar 0) pNone (pSome (sVar 1))) (gName' 2)) [some (.scr ns), some (.int 1), none, none] st = .nx [some (.scr ns), some (.int 1), some (.lst ((ns.take 1).map D.int)), none] st := fun st => by
      have e : dSlice false (.scr ns) none (some 1) st = .ok (.lst ((ns.take 1).map D.int)) st := by
        show R.ok (D.lst (Bk.cutD (ns.map D.int) none (some 1))) st = _
        unfold Bk.cutD
        rw [sIx_pos (by omega), HT.sIx_none, List.drop_zero, Nat.sub_zero, List.map_take]
        refine congrArg (fun z => R.ok (D.lst z) st) (List.take_eq_take_iff.mpr ?_)
        show min (min 1 _) _ = _
        omega
      simp only [sAsg_e, sSlice_e, sVar_0, sVar_s, R.bind_ok, pNone_e, pSome_e, rPt_int, e, sE2_ok]
      rw [gAsg_name (by simp)]
      rfl
    match ns, h0 with
    | [], h0 => exact ⟨0, fun st hs => ⟨h0 st, by subst hs; rfl⟩⟩
    | z :: r, h0 => exact ⟨z, fun st hs => ⟨h0 st, by subst hs; rfl⟩⟩
  obtain ⟨z, hz⟩ := key
  obtain ⟨a, b, c, hd⟩ := f_dice z
  refine ⟨a, b, c, ?_⟩
  have hr : M_law_rounds ([.scr ns, .int 1].map some ++ List.replicate (S_law_rounds.N.length - 2) none) [] = .rt (.lst [.ref 0]) (DS a b c) := by
    show M_law_rounds [some (.scr ns), some (.int 1), none, none] [] = _
    unfold M_law_rounds
    rw [seq_nx (hz [] rfl).1, seq_nx (hz [] rfl).2]
    have ec := comp_wkL (st := []) (ρ := [some (.scr ns), some (.int 1), some (.lst [.int z]), none]) (m := false) (own := [3]) (it := iVal (sVar 2)) (gt := gName' 3) (test := tYesE) (elt := sCall F_law_dice (sCons (sVar 3) sNil)) (ds := [.int z]) (ys := [.ref 0]) (st1 := []) (st2 := DS a b c) (by simp) (by
      unfold compL
      rw [gn (by simp [wipeD])]
      simp only [wipeD, List.set_cons_succ, List.set_cons_zero, tYesE_e, R.bind_ok, if_true, sCall_e, sCons_e, sVar_0, sVar_s, sNil_e, hd]
      rfl)
    rw [mkB_f (by decide)] at ec
    simp only [sSeq_e, sRet_e, ec, sE2_ok, then_rt]
  have e := semF_eq (esc := true) (np := 2) den_law_rounds rfl hr
  unfold F_law_rounds
  rw [e]
  rfl
end K03

namespace K03
open L2 PyProof.Rows PySem.Spec PySem Bk
/-! ## The law's own walk -/
def Dice (st : Store) : Prop := ∃ a b c : Int, st = DS a b c
abbrev At (ρ : Lc) (i : Nat) (d : D) : Prop := ρ[i]? = some (some d)
section
variable {ρ : Lc} {st : Store}
theorem At.v {i : Nat} {d : D} (h : At ρ i d) (st : Store) : sVar i ρ st = .ok d st := sVar_get h
theorem At.set {i j : Nat} {d : D} {x : Option D} (h : At ρ j d) (n : i ≠ j) : At (ρ.set i x) j d := by
  show (ρ.set i x)[j]? = _
  rw [List.getElem?_set_ne n]
  exact h
theorem At.self {i : Nat} {d : D} (h : i < ρ.length) : At (ρ.set i (some d)) i d := List.getElem?_set_self h
theorem At.blk {i j : Nat} {d : D} {x : Option D} (h : At ρ j d) (n : i ≠ j) : At ((wipeD ρ [i]).set i x) j d := (At.set (ρ := ρ) (x := none) h n).set n
theorem At.bself {i : Nat} {d : D} (h : i < ρ.length) : At ((wipeD ρ [i]).set i (some d)) i d := At.self (by simpa [wipeD] using h)
theorem gb {i : Nat} {d : D} (h : i < ρ.length) : gName' i d (wipeD ρ [i]) = some ((wipeD ρ [i]).set i (some d)) := gn (by simpa [wipeD] using h)
theorem asg {i : Nat} {d : D} {f : SE} {st1 : Store} (e : f ρ st = .ok d st1) (h : i < ρ.length) : sAsg f (gName' i) ρ st = .nx (ρ.set i (some d)) st1 := by
  rw [sAsg_e, e, sE2_ok, gAsg_name h]
theorem roll_e {f : SE} {m : Nat} (h2 : At ρ 2 (.ref 0)) (hd : Dice st) (h0 : 0 < m) (h1 : m ≤ 100000000) (hf : ∀ st, f ρ st = .ok (.int (m : Nat)) st) :
    ∃ (r : Nat) (st' : Store), r < m ∧ Dice st' ∧ sCall F_law_roll (sCons (sVar 2) (sCons f sNil)) ρ st = .ok (.int (r : Nat)) st' := by
  obtain ⟨a, b, c, rfl⟩ := hd
  obtain ⟨r, a', b', c', hr, e⟩ := f_roll a b c m h0 h1
  refine ⟨r, DS a' b' c', hr, ⟨a', b', c', rfl⟩, ?_⟩
  simp only [sCall_e, sCons_e, h2.v, R.bind_ok, hf, sNil_e, e]
theorem codesOf {P : Nat → Prop} : ∀ {ys : List D}, (∀ y ∈ ys, ∃ c, y = .str (T [c]) ∧ P c) → ∃ cs : List Nat, ys = cs.map (fun c => D.str (T [c])) ∧ ∀ c ∈ cs, P c
  | [], _ => ⟨[], rfl, fun _ h => nomatch h⟩
  | y :: ys, h => by
    obtain ⟨c, e, hc⟩ := h y (List.mem_cons_self ..)
    obtain ⟨cs, e2, h2⟩ := codesOf (ys := ys) fun z hz => h z (List.mem_cons_of_mem _ hz)
    refine ⟨c :: cs, by rw [e, e2]; rfl, fun x hx => ?_⟩
    rcases List.mem_cons.mp hx with rfl | hx
    · exact hc
    · exact h2 x hx
theorem flat1 : ∀ cs : List Nat, (cs.map fun c => [c]).flatten = cs
  | [] => rfl
  | c :: cs => by rw [List.map_cons, List.flatten_cons, flat1 cs]; rfl
theorem sum1 : ∀ cs : List Nat, ((cs.map fun c => [c]).map (·.length)).sum = cs.length
  | [] => rfl
  | c :: cs => by rw [List.map_cons, List.map_cons, List.sum_cons, sum1 cs, List.length_cons, List.length_cons, List.length_nil]; omega
theorem join_codes {cs : List Nat} (h : cs.length ≤ 100000) : mJoin (T []) [.lst (cs.map fun c => D.str (T [c]))] st = .ok (.str (T cs)) st := by
  have := mJoin_T (st := st) (z := []) (xs := cs.map fun c => [c]) (by rw [sum1, List.length_nil, Nat.mul_zero, Nat.add_zero]; unfold big; omega)
  rw [List.map_map, joinL_nil, flat1] at this
  exact this
/-- a text of rolled signs -/
theorem roll_join {P : Nat → Prop} {it : SI} {elt : SE} {ds : List D} {st1 : Store} {i : Nat} (hi : i < ρ.length) (hit : it ρ st = .ok (wkL ds) st1) (hd : Dice st1) (hl : ds.length ≤ 1000)
    (he : ∀ d ∈ ds, ∀ st, Dice st → ∃ c st', Dice st' ∧ P c ∧ elt ((wipeD ρ [i]).set i (some d)) st = .ok (.str (T [c])) st') :
    ∃ (cs : List Nat) (st' : Store), Dice st' ∧ cs.length = ds.length ∧ (∀ c ∈ cs, P c) ∧ sMeth "join" (sVal (.str (T []))) (sCons (sComp false [i] it (gName' i) tYesE elt) sNil) ρ st = .ok (.str (T cs)) st' := by
  obtain ⟨ys, st2, ec, h2, hl2, hy⟩ := compL_inv (gt := gName' i) (elt := elt) (ρ0 := wipeD ρ [i]) Dice (fun y => ∃ c, y = .str (T [c]) ∧ P c) ds st1 hd fun d hd st hs => by
    obtain ⟨c, st', h1, h2, h3⟩ := he d hd st hs
    exact ⟨_, _, st', gb hi, h3, h1, c, rfl, h2⟩
  obtain ⟨cs, e, hc⟩ := codesOf hy
  subst e
  have ec2 := comp_wkL (m := false) (own := [i]) hit ec
  rw [List.length_map] at hl2
  rw [mkB_f (by rw [List.length_map]; unfold big; omega)] at ec2
  refine ⟨cs, st2, h2, hl2, hc, ?_⟩
  simp only [sMeth_e, sVal_e, R.bind_ok, mo_join, sCons_e, ec2, sNil_e, mtRun_some, join_codes (st := st2) (cs := cs) (by omega)]
theorem roll_str {f : SE} (h2 : At ρ 2 (.ref 0)) (hd : Dice st) : ∃ c st', Dice st' ∧ isD c = true ∧ sCall bStr (sCons (sCall F_law_roll (sCons (sVar 2) (sCons (sVal (.int 10)) sNil))) sNil) ρ st = .ok (.str (T [c])) st' := by
  obtain ⟨r, st', hr, h3, e⟩ := roll_e (ρ := ρ) (f := sVal (.int 10)) (m := 10) h2 hd (by decide) (by decide) (fun _ => rfl)
  refine ⟨48 + r, st', h3, isD_iff.mpr (by omega), ?_⟩
  rw [sCall_e, sCons_e, e]
  simp only [R.bind_ok, sNil_e, str_dig hr]
theorem rng_len (a : Int) (n : Nat) : (rngL a 1 n).length = n := by unfold rngL; simp
/-! the parts -/
abbrev landsD : D := .lst [.str (T [97, 116]), .str (T [98, 101]), .str (T [99, 104]), .str (T [102, 105]), .str (T [110, 111])]
theorem l_s1 (hl : ρ.length = 27) (h1 : At ρ 1 landsD) (h2 : At ρ 2 (.ref 0)) (hd : Dice st) : ∃ land n st', sizeL land = some n ∧ Dice st' ∧ M_law_s1 ρ st = .nx (ρ.set 3 (some (.str (T land)))) st' := by
  obtain ⟨r, st', hr, h3, e⟩ := roll_e (ρ := ρ) (f := sVal (.int 5)) (m := 5) h2 hd (by decide) (by decide) (fun _ => rfl)
  have key : ∃ land n, sizeL land = some n ∧ dIx pc_kc landsD (.int (r : Nat)) st' = .ok (.str (T land)) st' := by
    match r, hr with
    | 0, _ => exact ⟨[97, 116], 16, rfl, rfl⟩
    | 1, _ => exact ⟨[98, 101], 12, rfl, rfl⟩
    | 2, _ => exact ⟨[99, 104], 17, rfl, rfl⟩
    | 3, _ => exact ⟨[102, 105], 14, rfl, rfl⟩
    | 4, _ => exact ⟨[110, 111], 11, rfl, rfl⟩
  obtain ⟨land, n, hs, e2⟩ := key
  refine ⟨land, n, st', hs, h3, ?_⟩
  unfold M_law_s1
  exact asg (by simp only [sBin_e, h1.v, R.bind_ok, e, e2]) (by omega)
theorem l_s2 {land : List Nat} {n : Nat} (hs : sizeL land = some n) (hl : ρ.length = 27) (h2 : At ρ 2 (.ref 0)) (h3 : At ρ 3 (.str (T land))) (hd : Dice st) : ∃ fig st', fig.length = n ∧ fig.all isD = true ∧ Dice st' ∧ M_law_s2 ρ st = .nx (ρ.set 4 (some (.str (T fig)))) st' := by
  have hsz := size_b hs
  have hit := rng1_e (f := sBin (dIx pc_kc) (sVal (.kd 0)) (sVar 3)) (ρ := ρ) (st := st) (st1 := st) (n := (n : Int)) (by simp only [sBin_e, sVal_e, R.bind_ok, h3.v, ix_lands hs]) (by omega) (by omega)
  obtain ⟨cs, st', h4, h5, h6, e⟩ := roll_join (P := fun c => isD c = true) (i := 12) (elt := sCall bStr (sCons (sCall F_law_roll (sCons (sVar 2) (sCons (sVal (.int 10)) sNil))) sNil)) (by omega) hit hd (by rw [rng_len]; omega) fun d _ st hs => by
    obtain ⟨c, st', q1, q2, q3⟩ := roll_str (f := sVal .non) (ρ := (wipeD ρ [12]).set 12 (some d)) (h2.blk (by omega)) hs
    exact ⟨c, st', q1, q2, q3⟩
  refine ⟨cs, st', by rw [h5, rng_len]; omega, List.all_eq_true.mpr h6, h4, ?_⟩
  unfold M_law_s2
  exact asg e (by omega)
theorem l_s3 {land fig : List Nat} {n : Nat} (hs : sizeL land = some n) (hf : fig.length = n) (hg : fig.all isD = true) (hl : ρ.length = 27) (h3 : At ρ 3 (.str (T land))) (h4 : At ρ 4 (.str (T fig))) : M_law_s3 ρ st = .nx (ρ.set 5 (some (.str (T (numOf land fig))))) st := by
  have hsz := size_b hs
  have e := f_with_check (st := st) (land := land) (fig := fig) (by omega) (by omega)
  rw [hs] at e
  simp only at e
  rw [if_pos ⟨hf, hg⟩] at e
  unfold M_law_s3
  exact asg (by simp only [sCall_e, sCons_e, h3.v, h4.v, R.bind_ok, sNil_e, e]) (by omega)
theorem glue {f : SE} {land fig : List Nat} {c : Nat} (hc : c ≤ 99) (h3 : At ρ 3 (.str (T land))) (h4 : At ρ 4 (.str (T fig))) (b1 : land.length ≤ 100) (b2 : fig.length ≤ 100) (hf : f ρ st = .ok (.int (c : Nat)) st) :
    (sBin dAdd (sBin dAdd (sBin dAdd (sVar 3) (sCall bStr (sCons (sBin dDiv f (sVal (.int 10))) sNil))) (sCall bStr (sCons (sBin dMod f (sVal (.int 10))) sNil))) (sVar 4)) ρ st = .ok (.str (T (land ++ (two c ++ fig)))) st := by
  have s1 : bStr [.int ((c / 10 : Nat) : Int)] st = .ok (.str (T [48 + c / 10])) st := str_dig (by omega)
  have s2 : bStr [.int ((c % 10 : Nat) : Int)] st = .ok (.str (T [48 + c % 10])) st := str_dig (by omega)
  have a1 : dAdd (.str (T land)) (.str (T [48 + c / 10])) st = .ok (.str (T (land ++ [48 + c / 10]))) st := dAdd_T (by simp; unfold big; omega)
  have a2 : dAdd (.str (T (land ++ [48 + c / 10]))) (.str (T [48 + c % 10])) st = .ok (.str (T (land ++ [48 + c / 10] ++ [48 + c % 10]))) st := dAdd_T (by simp; unfold big; omega)
  have a3 : dAdd (.str (T (land ++ [48 + c / 10] ++ [48 + c % 10]))) (.str (T fig)) st = .ok (.str (T (land ++ [48 + c / 10] ++ [48 + c % 10] ++ fig))) st := dAdd_T (by simp; unfold big; omega)
  have en : land ++ [48 + c / 10] ++ [48 + c % 10] ++ fig = land ++ (two c ++ fig) := by simp [two]
  simp only [sBin_e, h3.v, h4.v, R.bind_ok, sCall_e, sCons_e, hf, sVal_e, div10, mod10, sNil_e, s1, s2, a1, a2, a3, en]
theorem one97 {k : Nat} (h : k < 97) : (List.range 97).filter (fun i => decide (i + 2 = k + 2)) = [k] := by
  have : ∀ k, k < 97 → (List.range 97).filter (fun i => decide (i + 2 = k + 2)) = [k] := by decide +kernel
  exact this k h
theorem l_s4 {land fig : List Nat} {n : Nat} (hs : sizeL land = some n) (hf : fig.length = n) (hg : fig.all isD = true) (hl : ρ.length = 27) (h3 : At ρ 3 (.str (T land))) (h4 : At ρ 4 (.str (T fig))) : M_law_s4 ρ st = .nx (ρ.set 6 (some (.lst [.int ((chkOf land fig : Nat) : Int)]))) st := by
  have hsz := size_b hs
  have hb := chk_b land fig
  have hit := rng2_e (f := sVal (.int 2)) (g := sVal (.int 99)) (ρ := ρ) (st := st) (st1 := st) (st2 := st) (a := 2) (b := 99) rfl rfl (by decide) (by decide) (by decide) (by decide)
  have ec := comp_wkL (m := false) (own := [24]) hit (compL_map (gt := gName' 24) (test := tVal (sCall F_law_good (sCons (sBin dAdd (sBin dAdd (sBin dAdd (sVar 3) (sCall bStr (sCons (sBin dDiv (sVar 24) (sVal (.int 10))) sNil))) (sCall bStr (sCons (sBin dMod (sVar 24) (sVal (.int 10))) sNil))) (sVar 4)) sNil))) (elt := sVar 24) (st := st) (ρ0 := wipeD ρ [24]) (fun (i : Nat) => D.int (2 + (i : Int) * 1)) (fun i => decide (i + 2 = chkOf land fig)) (fun (i : Nat) => D.int (2 + (i : Int) * 1)) (List.range 97) fun i hi => ⟨_, gb (by omega), by
    rw [List.mem_range] at hi
    have v : sVar 24 ((wipeD ρ [24]).set 24 (some (.int (2 + (i : Int) * 1)))) st = .ok (.int ((i + 2 : Nat) : Int)) st := by
      rw [(At.bself (ρ := ρ) (i := 24) (d := .int (2 + (i : Int) * 1)) (by omega)).v]
      exact congrArg (fun z => R.ok (D.int z) st) (by omega)
    have g := glue (f := sVar 24) (c := i + 2) (ρ := (wipeD ρ [24]).set 24 (some (.int (2 + (i : Int) * 1)))) (by omega) (h3.blk (by omega)) (h4.blk (by omega)) (by omega) (by omega) v
    have fg : F_law_good [.str (T (land ++ (two (i + 2) ++ fig)))] st = .ok (.bl (decide (i + 2 = chkOf land fig))) st := by
      rw [f_law_good (by rw [List.length_append, List.length_append, (two_ok (k := i + 2) (by omega)).2.2]; omega), chk_fits hs hf hg (by omega) (by omega)]
    rw [tVal_e, sCall_e, sCons_e, g]
    simp only [R.bind_ok, sNil_e, fg, rTr_bl], fun _ => (At.bself (ρ := ρ) (i := 24) (by omega)).v st⟩)
  obtain ⟨k, hk⟩ : ∃ k, chkOf land fig = k + 2 := ⟨chkOf land fig - 2, by omega⟩
  have ef : (List.range 97).filter (fun i => decide (i + 2 = chkOf land fig)) = [k] := by
    rw [hk]
    exact one97 (by omega)
  rw [ef, mkB_f (by show 1 ≤ big; decide)] at ec
  have ek : D.int (2 + (k : Int) * 1) = D.int ((chkOf land fig : Nat) : Int) := congrArg D.int (by omega)
  rw [List.map_cons, List.map_nil, ek] at ec
  unfold M_law_s4
  exact asg ec (by omega)
theorem l_s6 {land fig : List Nat} {n : Nat} (hs : sizeL land = some n) (hf : fig.length = n) (h3 : At ρ 3 (.str (T land))) (h4 : At ρ 4 (.str (T fig))) (h5 : At ρ 5 (.str (T (numOf land fig)))) (h6 : At ρ 6 (.lst [.int ((chkOf land fig : Nat) : Int)])) : M_law_s6 ρ st = .nx ρ st := by
  have hsz := size_b hs
  have hb := chk_b land fig
  have i0 : dIx pc_kc (.lst [.int ((chkOf land fig : Nat) : Int)]) (.int 0) st = .ok (.int ((chkOf land fig : Nat) : Int)) st := rfl
  have bl : bLen [.lst [.int ((chkOf land fig : Nat) : Int)]] st = .ok (.int 1) st := rfl
  have g := glue (f := sBin (dIx pc_kc) (sVar 6) (sVal (.int 0))) (st := st) (c := chkOf land fig) (by omega) h3 h4 (by omega) (by omega) (by simp only [sBin_e, h6.v, R.bind_ok, sVal_e, i0])
  have q : (T (numOf land fig) == T (land ++ (two (chkOf land fig) ++ fig))) = true := beq_self_eq_true _
  unfold M_law_s6
  rw [sIfS_e, tOr_e, tVal_e, sBin_e]
  simp only [sCall_e, sCons_e, h6.v, R.bind_ok, sNil_e, bl, sVal_e, cmp_neI, beq_self_eq_true, Bool.not_true, rTr_bl, rOr_f]
  rw [tVal_e, sBin_e, h5.v, R.bind_ok, g]
  simp only [R.bind_ok, cmp_neS, q, Bool.not_true, rTr_bl, rSt_f, sNx_e]
theorem l_s8 {l : List Nat} (hb : l.length ≤ 300) (hg : good l = true) (h5 : At ρ 5 (.str (T l))) : M_law_s8 ρ st = .nx ρ st := by
  unfold M_law_s8
  simp only [sIfS_e, tNot_e, tVal_e, sCall_e, sCons_e, h5.v, R.bind_ok, sNil_e, f_is_good hb, hg, rTr_bl, Bool.not_true, rSt_f, sNx_e]
end
end K03

namespace K03
open L2 PyProof.Rows PySem.Spec PySem Bk
section
variable {ρ : Lc} {st : Store}
abbrev sig16 : List Nat := [48, 49, 50, 51, 52, 53, 54, 55, 56, 57, 97, 98, 99, 120, 121, 122]
theorem sig16_at {r : Nat} (h : r < 16) : ∃ c p, sig16[r]? = some c ∧ plc c = some p := by
  have : ∀ r, r < 16 → sig16[r]? = some (sig16.getD r 0) ∧ (plc (sig16.getD r 0)).isSome = true := by decide +kernel
  obtain ⟨h1, h2⟩ := this r h
  obtain ⟨p, hp⟩ := Option.isSome_iff_exists.mp h2
  exact ⟨_, p, h1, hp⟩
theorem valSome : ∀ (l : List Nat) (v : Nat), (∀ c ∈ l, ∃ p, plc c = some p) → ∃ w, valF v l = some w
  | [], v, _ => ⟨v, rfl⟩
  | c :: l, v, h => by
    obtain ⟨p, hp⟩ := h c (List.mem_cons_self ..)
    obtain ⟨w, hw⟩ := valSome l (v * wid p + p) fun x hx => h x (List.mem_cons_of_mem _ hx)
    exact ⟨w, by rw [val_cons, hp]; exact hw⟩
theorem l_s9 (hl : ρ.length = 27) (h2 : At ρ 2 (.ref 0)) (hd : Dice st) : ∃ text st', Dice st' ∧ text ≠ [] ∧ text.length ≤ 12 ∧ (∀ c ∈ text, ∃ p, plc c = some p) ∧ M_law_s9 ρ st = .nx (ρ.set 7 (some (.str (T text)))) st' := by
  obtain ⟨r, st1, hr, h3, e⟩ := roll_e (ρ := ρ) (f := sVal (.int 12)) (m := 12) h2 hd (by decide) (by decide) (fun _ => rfl)
  have hit := rng1_e (f := sBin dAdd (sVal (.int 1)) (sCall F_law_roll (sCons (sVar 2) (sCons (sVal (.int 12)) sNil)))) (ρ := ρ) (st := st) (st1 := st1) (n := 1 + (r : Int)) (by rw [sBin_e, sVal_e, R.bind_ok, e]; rfl) (by omega) (by omega)
  obtain ⟨cs, st', h4, h5, h6, e2⟩ := roll_join (P := fun c => ∃ p, plc c = some p) (i := 12) (elt := sBin (dIx pc_kc) (sVal (.str (T [48, 49, 50, 51, 52, 53, 54, 55, 56, 57, 97, 98, 99, 120, 121, 122]))) (sCall F_law_roll (sCons (sVar 2) (sCons (sVal (.int 16)) sNil)))) (by omega) hit h3 (by rw [rng_len]; omega) fun d _ st hs => by
    obtain ⟨r2, st2, q1, q2, q3⟩ := roll_e (ρ := (wipeD ρ [12]).set 12 (some d)) (f := sVal (.int 16)) (m := 16) (h2.blk (by omega)) hs (by decide) (by decide) (fun _ => rfl)
    obtain ⟨c, p, z1, z2⟩ := sig16_at q1
    refine ⟨c, st2, q2, ⟨p, z2⟩, ?_⟩
    rw [sBin_e, sVal_e, R.bind_ok, q3, R.bind_ok, ix_T (by show 16 ≤ big; decide) z1]
  rw [rng_len] at h5
  refine ⟨cs, st', h4, ?_, by omega, h6, ?_⟩
  · intro z
    rw [z, List.length_nil] at h5
    omega
  · unfold M_law_s9
    exact asg e2 (by omega)
theorem l_s11 {text : List Nat} (hne : text ≠ []) (hb : text.length ≤ 12) (hp : ∀ c ∈ text, ∃ p, plc c = some p) (h7 : At ρ 7 (.str (T text))) : M_law_s11 ρ st = .nx ρ st := by
  obtain ⟨w, hw⟩ := valSome text 0 hp
  have e1 : F_rest [.str (T text)] st = .ok (.int ((w % 97 : Nat) : Int)) st := by
    rw [f_rest]
    unfold restR
    rw [if_neg hne, rest0, hw]
    rfl
  have e2 : F_law_rest [.str (T text)] st = .ok (.int ((w % 97 : Nat) : Int)) st := f_law_rest hw hne (by omega)
  unfold M_law_s11
  simp only [sIfS_e, tVal_e, sBin_e, sCall_e, sCons_e, h7.v, R.bind_ok, sNil_e, e1, e2, cmp_neI, beq_self_eq_true, Bool.not_true, rTr_bl, rSt_f, sNx_e]
theorem l_s12 {land tail : List Nat} {n : Nat} (h0 : land.length = 2) (h1 : tail.length = n + 2) (hn : n ≤ 17) (ht : tail.all isD = true) (hl : ρ.length = 27) (h2 : At ρ 2 (.ref 0)) (h5 : At ρ 5 (.str (T (land ++ tail)))) (hd : Dice st) :
    ∃ bd st', bd.length = n + 2 ∧ bd.all isD = true ∧ Dice st' ∧ M_law_s12 ρ st = .nx (ρ.set 8 (some (.str (T (land ++ bd))))) st' := by
  have b : (land ++ tail).length ≤ big := by rw [List.length_append]; unfold big; omega
  have q1 : dSlice false (.str (T (land ++ tail))) none (some 2) st = .ok (.str (T land)) st := by
    rw [dSl_to (by omega) b]
    refine congrArg (fun z => R.ok (D.str (T z)) st) ?_
    show (land ++ tail).take 2 = land
    rw [← h0]; exact List.take_left
  have q2 : dSlice false (.str (T (land ++ tail))) (some 2) none st = .ok (.str (T tail)) st := by
    rw [dSl_from (by omega) b]
    refine congrArg (fun z => R.ok (D.str (T z)) st) ?_
    show (land ++ tail).drop 2 = tail
    rw [← h0]; exact List.drop_left
  have hit : iVal (sSlice false (sVar 5) (pSome (sVal (.int 2))) pNone) ρ st = .ok (wkL (tail.map fun c => D.str (T [c]))) st := by
    simp only [iVal_e, sSlice_e, h5.v, R.bind_ok, pSome_e, sVal_e, rPt_int, pNone_e, q2, dIter_T]
  obtain ⟨cs, st', h4, h6, h7, e⟩ := roll_join (P := fun c => isD c = true) (i := 17) (elt := sIf (tVal (sBin (cmpF pc_kc .Gt) (sCall F_law_roll (sCons (sVar 2) (sCons (sVal (.int 6)) sNil))) (sVal (.int 0)))) (sVar 17) (sCall bStr (sCons (sCall F_law_roll (sCons (sVar 2) (sCons (sVal (.int 10)) sNil))) sNil))) (by omega) hit hd (by rw [List.length_map]; omega) fun d hm st hs => by
    obtain ⟨c, hc, rfl⟩ := List.mem_map.mp hm
    obtain ⟨r2, st2, z1, z2, z3⟩ := roll_e (ρ := (wipeD ρ [17]).set 17 (some (D.str (T [c])))) (f := sVal (.int 6)) (m := 6) (h2.blk (by omega)) hs (by decide) (by decide) (fun _ => rfl)
    have z4 : sVar 17 ((wipeD ρ [17]).set 17 (some (D.str (T [c])))) st2 = .ok (.str (T [c])) st2 := (At.bself (by omega)).v st2
    by_cases hr : (0 : Int) < (r2 : Int)
    · refine ⟨c, st2, z2, List.all_eq_true.mp ht c hc, ?_⟩
      rw [sIf_e, tVal_e, sBin_e, z3]
      simp only [R.bind_ok, sVal_e, cmp_gt, hr, decide_true, rTr_bl, rIf_t, z4]
    · obtain ⟨c', st3, y1, y2, y3⟩ := roll_str (f := sVal .non) (ρ := (wipeD ρ [17]).set 17 (some (D.str (T [c])))) (h2.blk (by omega)) z2
      refine ⟨c', st3, y1, y2, ?_⟩
      rw [sIf_e, tVal_e, sBin_e, z3]
      simp only [R.bind_ok, sVal_e, cmp_gt, hr, decide_false, rTr_bl, rIf_f]
      exact y3
  rw [List.length_map] at h6
  refine ⟨cs, st', by omega, List.all_eq_true.mpr h7, h4, ?_⟩
  have a1 : dAdd (.str (T land)) (.str (T cs)) st' = .ok (.str (T (land ++ cs))) st' := dAdd_T (by unfold big; omega)
  unfold M_law_s12
  refine asg ?_ (by omega)
  rw [sBin_e, sSlice_e]
  simp only [h5.v, R.bind_ok, pNone_e, pSome_e, sVal_e, rPt_int, q1]
  rw [e, R.bind_ok, a1]
theorem good_len {l : List Nat} {n : Nat} (hs : sizeL (l.take 2) = some n) (h : l.length ≠ n + 4) : good l = false := by
  unfold good
  rw [hs]
  simp [h]
theorem l_s14 {land num bent : List Nat} {n : Nat} (hs : sizeL land = some n) (hn : num.take 2 = land) (hnl : num.length = n + 4) (hbl : bent.length = n + 4) (h5 : At ρ 5 (.str (T num))) (h8 : At ρ 8 (.str (T bent))) : M_law_s14 ρ st = .nx ρ st := by
  have hsz := size_b hs
  have a1 : dAdd (.str (T num)) (.str (T [48])) st = .ok (.str (T (num ++ [48]))) st := dAdd_T (by show _ + 1 ≤ big; unfold big; omega)
  have hne : num ≠ [] := by intro z; rw [z] at hnl; cases hnl
  have q1 : dSlice false (.str (T num)) none (some (-1)) st = .ok (.str (T (num.take (num.length - 1)))) st := dSl_butl hne (by unfold big; omega)
  have n1 : dNeg (.int 1) st = .ok (.int (-1)) st := rfl
  have g1 : good (num ++ [48]) = false := good_len (n := n) (by rw [List.take_append_of_le_length (by omega), hn]; exact hs) (by rw [List.length_append]; show _ + 1 ≠ _; omega)
  have g2 : good (num.take (num.length - 1)) = false := good_len (n := n) (by rw [List.take_take, Nat.min_eq_left (by omega), hn]; exact hs) (by rw [List.length_take]; omega)
  have f1 : F_is_good [.str (T (num ++ [48]))] st = .ok (.bl false) st := by rw [f_is_good (by rw [List.length_append]; show _ + 1 ≤ _; omega), g1]
  have f2 : F_is_good [.str (T (num.take (num.length - 1)))] st = .ok (.bl false) st := by rw [f_is_good (by rw [List.length_take]; omega), g2]
  have f3 : F_is_good [.str (T bent)] st = .ok (.bl (good bent)) st := f_is_good (by omega)
  have f4 : F_law_good [.str (T bent)] st = .ok (.bl (good bent)) st := f_law_good (by omega)
  unfold M_law_s14
  simp only [sIfS_e, tOr_e, tVal_e, sBin_e, sCall_e, sCons_e, h5.v, h8.v, R.bind_ok, sNil_e, f3, f4, cmp_neB, beq_self_eq_true, Bool.not_true, rTr_bl, rOr_f, sVal_e, a1, f1, sSlice_e, pNone_e, pSome_e, sUn_e, n1, rPt_int, q1, f2, rSt_f, sNx_e]
theorem l_s15 {num : List Nat} (hl : ρ.length = 27) (hnl : num.length < 300) (h5 : At ρ 5 (.str (T num))) : M_law_s15 ρ st = .nx (ρ.set 9 (some (.lst ((groups num).map fun g => D.str (T g))))) st := by
  unfold M_law_s15
  exact asg (comp4 hnl h5 (by omega) (by omega)) (by omega)
abbrev KV2 : List (Key × D) := [(.inr (T [97, 116]), .str (T [65, 84])), (.inr (T [98, 101]), .str (T [66, 69])), (.inr (T [99, 104]), .str (T [67, 72])), (.inr (T [102, 105]), .str (T [70, 73])), (.inr (T [110, 111]), .str (T [78, 79]))]
theorem KV2_merge : mergeD [] KV2 = KV2 := by
  simp [mergeD, putD, KV2, inr_T, T_eq]
def upL (l : List Nat) : List Nat := l.map (· - 32)
theorem KV2_look {land : List Nat} {n : Nat} (h : sizeL land = some n) : look (mergeD [] KV2) (.inr (T land)) = some (.str (T (upL land))) := by
  rw [KV2_merge]
  rcases size_cases h with ⟨rfl, _⟩ | ⟨rfl, _⟩ | ⟨rfl, _⟩ | ⟨rfl, _⟩ | ⟨rfl, _⟩ <;> simp [look, KV2, inr_T, upL, T_eq]
theorem l_s16 {land : List Nat} {n : Nat} (hs : sizeL land = some n) (hl : ρ.length = 27) (h3 : At ρ 3 (.str (T land))) : M_law_s16 ρ st = .nx (ρ.set 10 (some (.str (T (upL land))))) st := by
  unfold M_law_s16
  refine asg ?_ (by omega)
  have e : dIx pc_kc (.dK (mergeD [] KV2)) (.str (T land)) st = .ok (.str (T (upL land))) st := ix_dK (KV2_look hs)
  rw [sBin_e, sDictC_e]
  simp only [R.bind_ok, h3.v]
  exact e
/-! reading back -/
theorem readL_app (a b : List Nat) : readL (a ++ b) = readL a ++ readL b := by
  unfold readL
  rw [List.filter_append, List.map_append]
theorem readL_dig : ∀ {l : List Nat}, l.all isD = true → readL l = l
  | [], _ => rfl
  | c :: l, h => by
    rw [List.all_cons, Bool.and_eq_true, isD_iff] at h
    have ih := readL_dig h.2
    unfold readL at ih ⊢
    have h1 : (!decide (c = 32)) = true := by simp; omega
    have h2 : lowc c = c := by unfold lowc; rw [if_neg (by omega)]
    rw [List.filter_cons, h1, if_pos rfl, List.map_cons, h2, ih]
theorem readL_land {l : List Nat} {n : Nat} (h : sizeL l = some n) : readL l = l ∧ readL (upL l) = l := by
  rcases size_cases h with ⟨rfl, _⟩ | ⟨rfl, _⟩ | ⟨rfl, _⟩ | ⟨rfl, _⟩ | ⟨rfl, _⟩ <;> decide
theorem readL_join : ∀ gs : List (List Nat), readL (TL.joinL [32] gs) = readL gs.flatten
  | [] => rfl
  | [g] => by simp [TL.joinL]
  | g :: h :: r => by
    have e : TL.joinL [32] (g :: h :: r) = g ++ ([32] ++ TL.joinL [32] (h :: r)) := rfl
    have e2 : readL [32] = [] := rfl
    rw [e, readL_app, readL_app, e2, List.nil_append, readL_join (h :: r), ← readL_app]
    rfl
theorem groups_flat : ∀ (m : Nat) (l : List Nat), l.length ≤ 4 * m → ((List.range m).map fun i => (l.drop (4 * i)).take 4).flatten = l
  | 0, l, h => by
    have : l = [] := List.length_eq_zero_iff.mp (by omega)
    rw [this]; rfl
  | m + 1, l, h => by
    have ih := groups_flat m (l.drop 4) (by rw [List.length_drop]; omega)
    rw [List.range_succ_eq_map, List.map_cons, List.flatten_cons, List.map_map]
    have e : ((fun i => (l.drop (4 * i)).take 4) ∘ Nat.succ) = fun i => ((l.drop 4).drop (4 * i)).take 4 := by
      funext i
      show (l.drop (4 * (i + 1))).take 4 = _
      rw [List.drop_drop]
      refine congrArg (fun z => (l.drop z).take 4) ?_
      omega
    rw [e, ih, Nat.mul_zero, List.drop_zero, List.take_append_drop]
theorem read_parted {land tail : List Nat} {n : Nat} (hs : sizeL land = some n) (ht : tail.all isD = true) : readL (partedL (land ++ tail)) = land ++ tail := by
  unfold partedL
  rw [readL_join]
  unfold groups
  rw [groups_flat _ _ (by omega), readL_app, (readL_land hs).1, readL_dig ht]
theorem sTold_e {txt : Str} {caught : Nat → Bool} {run : Scope → Expr → SE} {lsc : Scope} {body : Expr} {F : SE} (h : run lsc body = F) : sTold txt caught run (sVal (.clo lsc body)) ρ st = told txt caught (F ρ st) := by
  rw [← h]
  rfl
theorem told_ok {txt : Str} {caught : Nat → Bool} {d : D} : told txt caught (.ok d st) = .ok d st := nr rfl
theorem told_exn {txt : Str} {caught : Nat → Bool} {c : Nat} (h : caught c = true) : told txt caught (.exn c st) = .ok (.str txt) st := by
  unfold told
  simp only
  rw [if_pos h]
abbrev eT : List Nat := [78, 117, 109, 98, 101, 114, 69, 114, 114, 111, 114]
theorem l_s18 {land tail bd : List Nat} {n : Nat} (hs : sizeL land = some n) (h1 : tail.length = n + 2) (ht : tail.all isD = true) (hbd : bd.length = n + 2) (hbt : bd.all isD = true) (hg : good (land ++ tail) = true)
    (h5 : At ρ 5 (.str (T (land ++ tail)))) (h8 : At ρ 8 (.str (T (land ++ bd)))) (h9 : At ρ 9 (.lst ((groups (land ++ tail)).map fun g => D.str (T g)))) (h10 : At ρ 10 (.str (T (upL land)))) : M_law_s18 ρ st = .nx ρ st := by
  have hsz := size_b hs
  have hlen : (land ++ tail).length = n + 4 := by rw [List.length_append]; omega
  have hlenb : (land ++ bd).length = n + 4 := by rw [List.length_append]; omega
  have hup : (upL land).length = 2 := by unfold upL; rw [List.length_map]; exact hsz.1
  have p1 : F_parted [.str (T (land ++ tail))] st = .ok (.str (T (partedL (land ++ tail)))) st := by rw [f_parted (by omega), if_pos hg]
  have j1 : mJoin (T [32]) [.lst ((groups (land ++ tail)).map fun g => D.str (T g))] st = .ok (.str (T (partedL (land ++ tail)))) st := join_groups (by omega)
  have pl : (partedL (land ++ tail)).length ≤ 300 := by
    have h := SX.join_S [32] (groups (land ++ tail))
    have z : ∀ gs : List (List Nat), (TL.joinL [32] gs).length ≤ (gs.map (·.length)).sum + gs.length * 1 := by
      intro gs
      induction gs with
      | nil => simp [TL.joinL]
      | cons g gs ih =>
        cases gs with
        | nil => simp [TL.joinL]
        | cons x xs =>
          have e : TL.joinL [32] (g :: x :: xs) = g ++ ([32] ++ TL.joinL [32] (x :: xs)) := rfl
          rw [e, List.length_append, List.length_append, List.map_cons, List.sum_cons, List.length_cons (a := g)]
          show g.length + (1 + _) ≤ _
          omega
    have h1 := z (groups (land ++ tail))
    have h2 := groups_sum (land ++ tail)
    unfold partedL
    omega
  have r1 : F_read [.str (T (partedL (land ++ tail)))] st = .ok (.str (T (land ++ tail))) st := by
    rw [f_read pl, read_parted hs ht, if_pos hg]
  have q2 : dSlice false (.str (T (land ++ tail))) (some 2) none st = .ok (.str (T tail)) st := by
    rw [dSl_from (by omega) (by unfold big; omega)]
    refine congrArg (fun z => R.ok (D.str (T z)) st) ?_
    show (land ++ tail).drop 2 = tail
    rw [← hsz.1]; exact List.drop_left
  have a1 : dAdd (.str (T (upL land))) (.str (T tail)) st = .ok (.str (T (upL land ++ tail))) st := dAdd_T (by unfold big; omega)
  have r2 : F_read [.str (T (upL land ++ tail))] st = .ok (.str (T (land ++ tail))) st := by
    rw [f_read (by rw [List.length_append]; omega), readL_app, (readL_land hs).2, readL_dig ht, if_pos hg]
  have r3 : F_read [.str (T (land ++ bd))] st = if good (land ++ bd) = true then .ok (.str (T (land ++ bd))) st else .exn 1 st := by
    rw [f_read (by omega), readL_app, (readL_land hs).1, readL_dig hbt]
  have lg : F_law_good [.str (T (land ++ bd))] st = .ok (.bl (good (land ++ bd))) st := f_law_good (by omega)
  have eqs : ∀ x : Str, (x == x) = true := fun x => beq_self_eq_true x
  have et : (sTold (T [78, 117, 109, 98, 101, 114, 69, 114, 114, 111, 114]) S_law.caught (fun lsc body => denE S_law 37 ((Scp.mk (defScope st_law) (fun _ => true) 4 false true).lamS lsc) body) (sVal (.clo lamsc_19 lambd_19))) ρ st = .ok (.str (T (if good (land ++ bd) = true then land ++ bd else eT))) st := by
    rw [sTold_e (F := sCall F_read (sCons (sVar 8) sNil)) run_19]
    simp only [sCall_e, sCons_e, h8.v, R.bind_ok, sNil_e, r3]
    cases good (land ++ bd) with
    | true => rw [if_pos rfl, if_pos rfl, told_ok]
    | false => rw [if_neg Bool.false_ne_true, if_neg Bool.false_ne_true, told_exn (by rfl)]
  have ei : (sIf (tVal (sCall F_law_good (sCons (sVar 8) sNil))) (sVar 8) (sVal (.str (T [78, 117, 109, 98, 101, 114, 69, 114, 114, 111, 114])))) ρ st = .ok (.str (T (if good (land ++ bd) = true then land ++ bd else eT))) st := by
    simp only [sIf_e, tVal_e, sCall_e, sCons_e, h8.v, R.bind_ok, sNil_e, lg, rTr_bl]
    cases good (land ++ bd) with
    | true => rw [rIf_t, if_pos rfl] <;> exact h8.v st
    | false => rw [rIf_f, if_neg Bool.false_ne_true] <;> rfl
  unfold M_law_s18
  rw [sIfS_e, tOr_e, tVal_e, sBin_e]
  simp only [sCall_e, sCons_e, h5.v, h9.v, R.bind_ok, sNil_e, p1, sMeth_e, sVal_e, mo_join, mtRun_some, j1, cmp_neS, eqs, Bool.not_true, rTr_bl, rOr_f]
  rw [tOr_e, tVal_e, sBin_e]
  simp only [sCall_e, sCons_e, h5.v, h9.v, R.bind_ok, sNil_e, sMeth_e, sVal_e, mo_join, mtRun_some, j1, r1, cmp_neS, eqs, Bool.not_true, rTr_bl, rOr_f]
  rw [tOr_e, tVal_e, sBin_e]
  simp only [sCall_e, sCons_e, h5.v, h10.v, sBin_e, sSlice_e, pSome_e, sVal_e, rPt_int, pNone_e, R.bind_ok, sNil_e, q2, a1, r2, cmp_neS, eqs, Bool.not_true, rTr_bl, rOr_f]
  rw [tVal_e, sBin_e, et, R.bind_ok, ei]
  simp only [R.bind_ok, cmp_neS, eqs, Bool.not_true, rTr_bl, rSt_f, sNx_e]
end
end K03

namespace K03
open L2 PyProof.Rows PySem.Spec PySem Bk
section
variable {ρ : Lc} {st : Store}
theorem dAdd_lst {xs ys : List D} (h : xs.length + ys.length ≤ big) : dAdd (.lst xs) (.lst ys) st = .ok (.lst (xs ++ ys)) st := by
  show (if xs.length + ys.length ≤ big then _ else _) = _
  rw [if_pos h]
theorem l_s19 (hl : ρ.length = 27) : M_law_s19 ρ st = .nx (ρ.set 11 (some (.lst (([] : List (List Nat)).map fun o => D.str (T o))))) st := by
  unfold M_law_s19
  exact asg (by simp only [sLstE_e, sNil_e, R.bind_ok, mkL_f (st := st) (ds := []) (by decide)]; rfl) (by omega)
theorem near_turn {l : List Nat} {p : Nat} {acc : List (List Nat)} (hl : ρ.length = 27) (hb : l.length ≤ 200) (hp : p < l.length) (ha : acc.length ≤ 90000) (h8 : At ρ 8 (.str (T l))) (h11 : At ρ 11 (.lst (acc.map fun o => D.str (T o)))) (h12 : At ρ 12 (.int (p : Nat))) :
    M_law_f20 ρ st = .nx (ρ.set 11 (some (.lst ((acc ++ nearAt l p).map fun o => D.str (T o))))) st := by
  have b : l.length ≤ big := by unfold big; omega
  have q1 : dSlice false (.str (T l)) none (some (p : Int)) st = .ok (.str (T (l.take p))) st := by
    have := dSl_to (st := st) (a := l) (i := (p : Int)) (by omega) b
    rwa [tnat] at this
  have q2 : dSlice false (.str (T l)) (some ((p : Int) + 1)) none st = .ok (.str (T (l.drop (p + 1)))) st := by
    have := dSl_from (st := st) (a := l) (i := (p : Int) + 1) (by omega) b
    rwa [show ((p : Int) + 1).toNat = p + 1 by omega] at this
  have q3 : dSlice false (.str (T l)) (some ((p : Int) + 2)) none st = .ok (.str (T (l.drop (p + 2)))) st := by
    have := dSl_from (st := st) (a := l) (i := (p : Int) + 2) (by omega) b
    rwa [show ((p : Int) + 2).toNat = p + 2 by omega] at this
  have lt : (l.take p).length ≤ 200 := by rw [List.length_take]; omega
  have ld : (l.drop (p + 1)).length ≤ 200 := by rw [List.length_drop]; omega
  have ld2 : (l.drop (p + 2)).length ≤ 200 := by rw [List.length_drop]; omega
  have bl : bLen [.str (T l)] st = .ok (.int l.length) st := bLen_T b
  -- the figures
  have ec := comp_wkL (m := false) (own := [17]) (it := iVal (sVal (.str (T [48, 49, 50, 51, 52, 53, 54, 55, 56, 57])))) (ρ := ρ) (st := st) (by simp only [iVal_e, sVal_e, R.bind_ok, dIter_T]) (compL_all (gt := gName' 17) (st := st) (elt := sBin dAdd (sBin dAdd (sSlice false (sVar 8) pNone (pSome (sVar 12))) (sVar 17)) (sSlice false (sVar 8) (pSome (sBin dAdd (sVar 12) (sVal (.int 1)))) pNone)) (ρ0 := wipeD ρ [17]) (fun c => D.str (T [c])) (fun d => D.str (T (put1 l p d))) dig fun d hd => ⟨_, gb (by omega), by
    have v17 := (At.bself (ρ := ρ) (i := 17) (d := .str (T [d])) (by omega)).v st
    have v8 := (h8.blk (i := 17) (x := some (.str (T [d]))) (by omega)).v st
    have v12 := (h12.blk (i := 17) (x := some (.str (T [d]))) (by omega)).v st
    have a1 : dAdd (.str (T (l.take p))) (.str (T [d])) st = .ok (.str (T (l.take p ++ [d]))) st := dAdd_T (by show _ + 1 ≤ big; unfold big; omega)
    have a2 : dAdd (.str (T (l.take p ++ [d]))) (.str (T (l.drop (p + 1)))) st = .ok (.str (T (put1 l p d))) st := dAdd_T (by rw [List.length_append]; show _ + 1 + _ ≤ big; unfold big; omega)
    simp only [sBin_e, sSlice_e, v8, v12, v17, R.bind_ok, pNone_e, pSome_e, rPt_int, q1, sVal_e, dAdd_int, q2, a1, a2]⟩)
  rw [mkB_f (by rw [List.length_map]; show 10 ≤ big; decide)] at ec
  have e1 : (sAsg (sBin dAdd (sVar 11) (sComp false [17] (iVal (sVal (.str (T [48, 49, 50, 51, 52, 53, 54, 55, 56, 57])))) (gName' 17) tYesE (sBin dAdd (sBin dAdd (sSlice false (sVar 8) pNone (pSome (sVar 12))) (sVar 17)) (sSlice false (sVar 8) (pSome (sBin dAdd (sVar 12) (sVal (.int 1)))) pNone)))) (gName' 11)) ρ st = .nx (ρ.set 11 (some (.lst ((acc ++ dig.map (put1 l p)).map fun o => D.str (T o))))) st := by
    refine asg ?_ (by omega)
    rw [sBin_e, h11.v, R.bind_ok, ec, R.bind_ok, dAdd_lst (by rw [List.length_map, List.length_map]; show _ + 10 ≤ big; unfold big; omega), List.map_append, List.map_map]
    rfl
  -- the exchange
  have hl1 : (ρ.set 11 (some (.lst ((acc ++ dig.map (put1 l p)).map fun o => D.str (T o))))).length = 27 := by rw [List.length_set]; exact hl
  have g8 := h8.set (i := 11) (x := some (.lst ((acc ++ dig.map (put1 l p)).map fun o => D.str (T o)))) (by omega)
  have g12 := h12.set (i := 11) (x := some (.lst ((acc ++ dig.map (put1 l p)).map fun o => D.str (T o)))) (by omega)
  have g11 := At.self (ρ := ρ) (i := 11) (d := .lst ((acc ++ dig.map (put1 l p)).map fun o => D.str (T o))) (by omega)
  generalize hρ : ρ.set 11 (some (.lst ((acc ++ dig.map (put1 l p)).map fun o => D.str (T o)))) = ρ1 at hl1 g8 g12 g11 e1
  have ec2 := comp_wkL (m := false) (own := [25]) (it := iVal (sLstE false (sCons (sVal (.int 0)) sNil))) (ρ := ρ1) (st := st) (ds := [()].map fun _ => D.int 0) (by simp only [iVal_e, sLstE_e, sCons_e, sVal_e, R.bind_ok, sNil_e, mkL_f (st := st) (ds := [D.int 0]) (by decide), dIter_lst]; rfl) (compL_map (gt := gName' 25) (st := st) (test := tVal (sBin (cmpF pc_kc .Lt) (sBin dAdd (sVar 12) (sVal (.int 1))) (sCall bLen (sCons (sVar 8) sNil)))) (elt := sBin dAdd (sBin dAdd (sBin dAdd (sSlice false (sVar 8) pNone (pSome (sVar 12))) (sBin (dIx pc_kc) (sVar 8) (sBin dAdd (sVar 12) (sVal (.int 1))))) (sBin (dIx pc_kc) (sVar 8) (sVar 12))) (sSlice false (sVar 8) (pSome (sBin dAdd (sVar 12) (sVal (.int 2)))) pNone)) (ρ0 := wipeD ρ1 [25]) (fun _ => D.int 0) (fun _ => decide (p + 1 < l.length)) (fun _ => D.str (T (swap1 l p))) [()] fun u _ => ⟨_, gb (by omega), by
    have v8 := (g8.blk (i := 25) (x := some (.int 0)) (by omega)).v st
    have v12 := (g12.blk (i := 25) (x := some (.int 0)) (by omega)).v st
    have z : decide ((p : Int) + 1 < (l.length : Int)) = decide (p + 1 < l.length) := by rw [decide_eq_decide]; omega
    simp only [tVal_e, sBin_e, v12, sVal_e, R.bind_ok, dAdd_int, sCall_e, sCons_e, v8, sNil_e, bl, cmp_lt, z, rTr_bl], fun hh => by
    have h : p + 1 < l.length := of_decide_eq_true hh
    have v8 := (g8.blk (i := 25) (x := some (.int 0)) (by omega)).v st
    have v12 := (g12.blk (i := 25) (x := some (.int 0)) (by omega)).v st
    have i1 : dIx pc_kc (.str (T l)) (.int ((p : Int) + 1)) st = .ok (.str (T [l.getD (p + 1) 0])) st := ix_T (k := p + 1) b (by rw [List.getD_eq_getElem?_getD, List.getElem?_eq_getElem h]; rfl)
    have i2 : dIx pc_kc (.str (T l)) (.int (p : Int)) st = .ok (.str (T [l.getD p 0])) st := ix_T (k := p) b (by rw [List.getD_eq_getElem?_getD, List.getElem?_eq_getElem hp]; rfl)
    have a1 : dAdd (.str (T (l.take p))) (.str (T [l.getD (p + 1) 0])) st = .ok (.str (T (l.take p ++ [l.getD (p + 1) 0]))) st := dAdd_T (by show _ + 1 ≤ big; unfold big; omega)
    have a2 : dAdd (.str (T (l.take p ++ [l.getD (p + 1) 0]))) (.str (T [l.getD p 0])) st = .ok (.str (T (l.take p ++ [l.getD (p + 1) 0] ++ [l.getD p 0]))) st := dAdd_T (by rw [List.length_append]; show _ + 1 + 1 ≤ big; unfold big; omega)
    have a3 : dAdd (.str (T (l.take p ++ [l.getD (p + 1) 0] ++ [l.getD p 0]))) (.str (T (l.drop (p + 2)))) st = .ok (.str (T (swap1 l p))) st := dAdd_T (by rw [List.length_append, List.length_append]; show _ + 1 + 1 + _ ≤ big; unfold big; omega)
    simp only [sBin_e, sSlice_e, v8, v12, R.bind_ok, pNone_e, pSome_e, rPt_int, q1, sVal_e, dAdd_int, i1, i2, q3, a1, a2, a3]⟩)
  have ey : (([()].filter fun _ => decide (p + 1 < l.length)).map fun _ => D.str (T (swap1 l p))) = (if p + 1 < l.length then [swap1 l p] else []).map fun o => D.str (T o) := by
    by_cases h : p + 1 < l.length <;> simp [h]
  rw [ey, mkB_f (by rw [List.length_map]; split <;> simp [big])] at ec2
  unfold M_law_f20
  rw [seq_nx e1]
  have e2 : (sAsg (sBin dAdd (sVar 11) (sComp false [25] (iVal (sLstE false (sCons (sVal (.int 0)) sNil))) (gName' 25) (tVal (sBin (cmpF pc_kc .Lt) (sBin dAdd (sVar 12) (sVal (.int 1))) (sCall bLen (sCons (sVar 8) sNil)))) (sBin dAdd (sBin dAdd (sBin dAdd (sSlice false (sVar 8) pNone (pSome (sVar 12))) (sBin (dIx pc_kc) (sVar 8) (sBin dAdd (sVar 12) (sVal (.int 1))))) (sBin (dIx pc_kc) (sVar 8) (sVar 12))) (sSlice false (sVar 8) (pSome (sBin dAdd (sVar 12) (sVal (.int 2)))) pNone)))) (gName' 11)) ρ1 st = .nx (ρ1.set 11 (some (.lst ((acc ++ nearAt l p).map fun o => D.str (T o))))) st := by
    refine asg ?_ (by omega)
    rw [sBin_e, g11.v, R.bind_ok, ec2, R.bind_ok, dAdd_lst (by
      rw [List.length_map, List.length_map, List.length_append, List.length_map]
      show acc.length + 10 + _ ≤ big
      split <;> (simp; unfold big; omega))]
    unfold nearAt
    rw [← List.map_append, List.append_assoc]
  rw [seq_nx e2, sNx_e, ← hρ, List.set_set]
theorem near_loop {l : List Nat} (hb : l.length ≤ 200) : ∀ (is : List Nat) (acc : List (List Nat)) (ρ : Lc), ρ.length = 27 → At ρ 8 (.str (T l)) → At ρ 11 (.lst (acc.map fun o => D.str (T o))) → (∀ i ∈ is, i + 2 < l.length) → acc.length + 11 * is.length ≤ 80000 →
    ∃ ρ', forL (gName' 12) M_law_f20 (is.map fun (i : Nat) => D.int (2 + (i : Int) * 1)) ρ st = .nx ρ' st ∧ ρ'.length = 27 ∧ At ρ' 11 (.lst ((acc ++ is.flatMap fun i => nearAt l (i + 2)).map fun o => D.str (T o))) ∧ ∀ j, j ≠ 11 → j ≠ 12 → ρ'[j]? = ρ[j]?
  | [], acc, ρ, h1, _, h3, _, _ => ⟨ρ, rfl, h1, by rw [List.flatMap_nil, List.append_nil]; exact h3, fun _ _ _ => rfl⟩
  | i :: is, acc, ρ, h1, h2, h3, hi, hk => by
    rw [List.length_cons] at hk
    have hn := nearAt_len l (i + 2)
    have z0 : (2 : Int) + (i : Int) * 1 = ((i + 2 : Nat) : Int) := by omega
    have hl2 : (ρ.set 12 (some (.int ((i + 2 : Nat) : Int)))).length = 27 := by rw [List.length_set]; exact h1
    have e1 := near_turn (ρ := ρ.set 12 (some (.int ((i + 2 : Nat) : Int)))) (st := st) (l := l) (p := i + 2) (acc := acc) hl2 hb (hi i (List.mem_cons_self ..)) (by omega) (h2.set (by omega)) (h3.set (by omega)) (At.self (by omega))
    obtain ⟨ρ', e2, g1, g2, g3⟩ := near_loop hb is (acc ++ nearAt l (i + 2)) ((ρ.set 12 (some (.int ((i + 2 : Nat) : Int)))).set 11 (some (.lst ((acc ++ nearAt l (i + 2)).map fun o => D.str (T o))))) (by rw [List.length_set]; exact hl2) ((h2.set (by omega)).set (by omega)) (At.self (by omega)) (fun j hj => hi j (List.mem_cons_of_mem _ hj)) (by rw [List.length_append]; omega)
    refine ⟨ρ', ?_, g1, ?_, fun j hj1 hj2 => ?_⟩
    · rw [List.map_cons, forL_cons (gn (by omega)), z0, e1]
      exact e2
    · rw [List.flatMap_cons, ← List.append_assoc]
      exact g2
    · rw [g3 j hj1 hj2, List.getElem?_set_ne (Ne.symm hj1), List.getElem?_set_ne (Ne.symm hj2)]
theorem l_s21 {l : List Nat} (hl : ρ.length = 27) (hb : l.length ≤ 200) (hb2 : 2 ≤ l.length) (h8 : At ρ 8 (.str (T l))) (h11 : At ρ 11 (.lst (([] : List (List Nat)).map fun o => D.str (T o)))) :
    ∃ ρ', M_law_s21 ρ st = .nx ρ' st ∧ ρ'.length = 27 ∧ At ρ' 11 (.lst ((near l).map fun o => D.str (T o))) ∧ ∀ j, j ≠ 11 → j ≠ 12 → ρ'[j]? = ρ[j]? := by
  have bl : bLen [.str (T l)] st = .ok (.int l.length) st := bLen_T (by unfold big; omega)
  have hit := rng2_e (f := sVal (.int 2)) (g := sCall bLen (sCons (sVar 8) sNil)) (ρ := ρ) (st := st) (st1 := st) (st2 := st) (a := 2) (b := (l.length : Int)) rfl (by simp only [sCall_e, sCons_e, h8.v, R.bind_ok, sNil_e, bl]) (by decide) (by decide) (by omega) (by omega)
  obtain ⟨ρ', e, g1, g2, g3⟩ := near_loop (st := st) hb (List.range (l.length - 2)) [] ρ hl h8 h11 (fun i hi => by rw [List.mem_range] at hi; omega) (by rw [List.length_range]; show 0 + _ ≤ _; omega)
  refine ⟨ρ', ?_, g1, g2, g3⟩
  unfold M_law_s21
  rw [for_wkL hit, show ((l.length : Int) - 2).toNat = l.length - 2 by omega]
  exact e
/-! what is due -/
theorem pairs_ks (v : D) : ∀ acc : List (List Nat), pairsD (acc.map fun o => D.tup [.str (T o), v]) = some (ks v acc)
  | [] => rfl
  | o :: acc => by
    rw [List.map_cons]
    have e : pairsD (D.tup [.str (T o), v] :: acc.map fun o => D.tup [.str (T o), v]) = (pairsD (acc.map fun o => D.tup [.str (T o), v])).map fun r => ((.inr (T o) : Key), v) :: r := rfl
    rw [e, pairs_ks v acc]
    rfl
theorem sortX_strs {d : D} {xs : List Str} (e : itemsX st d = some (xs.map D.str)) (h : xs.length ≤ big) : bSortX [d] st = .ok (.lst ((sortS xs).map D.str)) st := by
  unfold bSortX
  simp only [e]
  rw [if_pos (by rw [List.length_map]; exact h)]
  cases xs with
  | nil => rfl
  | cons x xs =>
    have e1 : intsOf ((x :: xs).map D.str) = none := rfl
    rw [e1, strsOf_map]
theorem dict_pairs {v : D} {acc : List (List Nat)} : bDictX pc_kc [.lst (acc.map fun o => D.tup [.str (T o), v])] st = .ok (.dK (ks v (acc.foldl addU []))) st := by
  have e : bDictX pc_kc [.lst (acc.map fun o => D.tup [.str (T o), v])] st = (match (some (acc.map fun o => D.tup [.str (T o), v])).bind pairsD with
    | some kvs => R.ok (.dK (mergeD [] kvs)) st
    | none => .stuck) := rfl
  rw [e, Option.bind_some, pairs_ks]
  have e2 : mergeD [] (ks v acc) = ks v (acc.foldl addU []) := merge_ks v acc []
  simp only [e2]
theorem l_s22 {l : List Nat} (hl : ρ.length = 27) (hb : l.length ≤ 200) (h8 : At ρ 8 (.str (T l))) (h11 : At ρ 11 (.lst ((near l).map fun o => D.str (T o)))) : M_law_s22 ρ st = .nx (ρ.set 13 (some (.lst ((slipsS l).map D.str)))) st := by
  have ec := comp_wkL (m := false) (own := [26]) (it := iVal (sVar 11)) (ρ := ρ) (st := st) (by simp only [iVal_e, h11.v, R.bind_ok, dIter_lst]) (compL_map (gt := gName' 26) (st := st) (test := tAnd' (tVal (sBin (cmpF pc_kc .NotEq) (sVar 26) (sVar 8))) (tVal (sCall F_law_good (sCons (sVar 26) sNil)))) (elt := sTupE (sCons (sVar 26) (sCons (sVal (.int 1)) sNil))) (ρ0 := wipeD ρ [26]) (fun o => D.str (T o)) (fun o => decide (o ≠ l) && good o) (fun o => D.tup [.str (T o), .int 1]) (near l) fun o ho => ⟨_, gb (by omega), by
    have v26 := (At.bself (ρ := ρ) (i := 26) (d := .str (T o)) (by omega)).v
    have v8 := (h8.blk (i := 26) (x := some (.str (T o))) (by omega)).v
    have hlo := near_mem_len ho
    have hgo : F_law_good [.str (T o)] st = .ok (.bl (good o)) st := f_law_good (by omega)
    have hne : (!(T o == T l)) = decide (o ≠ l) := by
      rw [T_beq]
      by_cases h : o = l <;> simp [h]
    simp only [tAnd_e, tVal_e, sBin_e, v26, v8, R.bind_ok, cmp_neS, hne, rTr_bl]
    cases decide (o ≠ l) with
    | false => simp only [rAnd_f, Bool.false_and]
    | true => simp only [rAnd_t, sCall_e, sCons_e, v26, R.bind_ok, sNil_e, hgo, rTr_bl, Bool.true_and], fun _ => by
    have v26 := (At.bself (ρ := ρ) (i := 26) (d := .str (T o)) (by omega)).v
    simp only [sTupE_e, sCons_e, v26, R.bind_ok, sVal_e, sNil_e, mkT_e (st := st) (ds := [D.str (T o), D.int 1]) (by show 2 ≤ big; decide)]⟩)
  have hn := near_len l
  have hfl : ((near l).filter fun o => decide (o ≠ l) && good o).length ≤ (near l).length := List.length_filter_le ..
  rw [mkB_f (by rw [List.length_map]; unfold big; omega)] at ec
  have ed := dict_pairs (st := st) (v := .int 1) (acc := (near l).filter fun o => decide (o ≠ l) && good o)
  have hf := addU_filter (fun o => decide (o ≠ l) && good o) (near l) []
  rw [List.filter_nil] at hf
  rw [← hf] at ed
  have hal := addU_len (near l) []
  have hfl2 : (((near l).foldl addU []).filter fun o => decide (o ≠ l) && good o).length ≤ ((near l).foldl addU []).length := List.length_filter_le ..
  rw [List.length_nil] at hal
  have es : bSortX [.dK (ks (.int 1) (((near l).foldl addU []).filter fun o => decide (o ≠ l) && good o))] st = .ok (.lst ((slipsS l).map D.str)) st := sortX_strs (xs := (((near l).foldl addU []).filter fun o => decide (o ≠ l) && good o).map T) (by
    have : itemsX st (.dK (ks (.int 1) (((near l).foldl addU []).filter fun o => decide (o ≠ l) && good o))) = some ((ks (.int 1) (((near l).foldl addU []).filter fun o => decide (o ≠ l) && good o)).map fun p => keyD p.1) := rfl
    rw [this, keys_ks, List.map_map]
    rfl) (by rw [List.length_map]; unfold big; omega)
  unfold M_law_s22
  exact asg (by rw [sCall_e, sCons_e, sCall_e, sCons_e, ec]; simp only [R.bind_ok, sNil_e, ed, es]) (by omega)
theorem slips_os (l : List Nat) : ∃ os : List (List Nat), slipsS l = os.map T ∧ ∀ o ∈ os, o ∈ near l ∧ o ≠ l ∧ good o = true := by
  refine ⟨(slipsS l).map (fun x => x.cps.toList), ?_, fun o ho => ?_⟩
  · rw [List.map_map]
    have : (T ∘ fun x : Str => x.cps.toList) = id := funext fun x => T_of x
    rw [this, List.map_id]
  · obtain ⟨x, hx, rfl⟩ := List.mem_map.mp ho
    unfold slipsS at hx
    rw [(sortS_perm _).mem_iff] at hx
    obtain ⟨o', h1, rfl⟩ := List.mem_map.mp hx
    obtain ⟨h2, h3⟩ := List.mem_filter.mp h1
    rw [T_tl]
    rw [Bool.and_eq_true, decide_eq_true_eq] at h3
    rcases addU_mem (near l) [] h2 with h | h
    · cases h
    · exact ⟨h, h3.1, h3.2⟩
theorem dice_ok (hd : Dice st) : okSt st.length st = true := by
  obtain ⟨a, b, c, rfl⟩ := hd
  rfl
theorem l_s24 {num bent : List Nat} {n : Nat} (hd : Dice st) (hs1 : sizeL (num.take 2) = some n) (hs2 : sizeL (bent.take 2) = some n) (h1 : num.length = n + 4) (h2 : bent.length = n + 4) (hg : good num = true) (hl : ρ.length = 27)
    (h5 : At ρ 5 (.str (T num))) (h8 : At ρ 8 (.str (T bent))) (h13 : At ρ 13 (.lst ((slipsS bent).map D.str))) : M_law_s24 ρ st = .nx ρ st := by
  have hsz := size_b hs1
  have f1 := f_slips (dice_ok hd) hs2 h2
  have f2 := f_slips (dice_ok hd) hs1 h1
  have bl : bListS [.tup ((slipsS bent).map D.str)] st = .ok (.lst ((slipsS bent).map D.str)) st := rfl
  obtain ⟨os, e0, ho⟩ := slips_os num
  have e0' : (slipsS num).map D.str = os.map fun o => D.str (T o) := by rw [e0, List.map_map]; rfl
  have q : ∀ o : List Nat, o.length ≤ 200 → dSlice false (.str (T o)) (some 2) (some 4) st = .ok (.str (T ((o.drop 2).take 2))) st := fun o h => dSl_mid (i := 2) (j := 4) (by omega) (by omega) (by unfold big; omega)
  have ec := comp_wkL (m := false) (own := [26]) (it := iVal (sCall F_slips_of (sCons (sVar 5) sNil))) (ρ := ρ) (st := st) (by simp only [iVal_e, sCall_e, sCons_e, h5.v, R.bind_ok, sNil_e, f2, e0', dIter_tup]) (compL_map (gt := gName' 26) (st := st) (test := tVal (sBin (cmpF pc_kc .Eq) (sSlice false (sVar 26) (pSome (sVal (.int 2))) (pSome (sVal (.int 4)))) (sSlice false (sVar 5) (pSome (sVal (.int 2))) (pSome (sVal (.int 4)))))) (elt := sVar 26) (ρ0 := wipeD ρ [26]) (fun o => D.str (T o)) (fun _ => false) (fun o => D.str (T o)) os fun o hm => ⟨_, gb (by omega), by
    obtain ⟨m1, m2, m3⟩ := ho o hm
    have v26 := (At.bself (ρ := ρ) (i := 26) (d := .str (T o)) (by omega)).v
    have v5 := (h5.blk (i := 26) (x := some (.str (T o))) (by omega)).v
    have ne := no_slip hg m1 m2 m3
    have hq : (T ((o.drop 2).take 2) == T ((num.drop 2).take 2)) = false := by rw [T_beq]; exact decide_eq_false ne
    have hlo := near_mem_len m1
    simp only [tVal_e, sBin_e, sSlice_e, v26, v5, R.bind_ok, pSome_e, sVal_e, rPt_int, q o (by omega), q num (by omega), cmp_eqS, hq, rTr_bl], fun z => by cases z⟩)
  rw [List.filter_eq_nil_iff.mpr (fun _ _ => Bool.false_ne_true), mkB_f (by show 0 ≤ big; decide)] at ec
  unfold M_law_s24
  rw [sIfS_e, tOr_e, tVal_e, sBin_e]
  simp only [sCall_e, sCons_e, h8.v, h13.v, R.bind_ok, sNil_e, f1, bl, cmp_neLS, decide_true, Bool.not_true, rTr_bl, rOr_f]
  rw [tVal_e, sBin_e, ec]
  simp only [R.bind_ok, sLstE_e, sNil_e, mkL_f (st := st) (ds := []) (by decide), cmp_neL0, List.map_nil, List.isEmpty_nil, Bool.not_true, rTr_bl, rSt_f, sNx_e]
end
end K03

namespace K03
open L2 PyProof.Rows PySem.Spec PySem Bk
section
variable {ρ : Lc} {st : Store}
/-! the places left open -/
def ki (is : List Int) : List (Key × D) := is.map fun i => (.inl i, .int 1)
theorem put_ki (is : List Int) (i : Int) : ∃ js, putD (ki is) (.inl i) (.int 1) = ki js ∧ js.length ≤ is.length + 1 ∧ ∀ j ∈ js, j ∈ is ∨ j = i := by
  unfold putD
  split
  · refine ⟨is, ?_, by omega, fun j hj => .inl hj⟩
    unfold ki
    rw [List.map_map]
    refine List.map_congr_left fun x hx => ?_
    show (if (Sum.inl x : Key) = Sum.inl i then ((Sum.inl x : Key), D.int 1) else ((Sum.inl x : Key), D.int 1)) = _
    split <;> rfl
  · refine ⟨is ++ [i], by unfold ki; rw [List.map_append]; rfl, by rw [List.length_append]; exact Nat.le_refl _, fun j hj => ?_⟩
    rcases List.mem_append.mp hj with h | h
    · exact .inl h
    · exact .inr (List.mem_singleton.mp h)
theorem merge_ki : ∀ (is acc : List Int), ∃ js, mergeD (ki acc) (ki is) = ki js ∧ js.length ≤ acc.length + is.length ∧ ∀ j ∈ js, j ∈ acc ∨ j ∈ is
  | [], acc => ⟨acc, rfl, by simp, fun j h => .inl h⟩
  | i :: is, acc => by
    obtain ⟨js, e, h1, h2⟩ := put_ki acc i
    obtain ⟨ls, e2, h3, h4⟩ := merge_ki is js
    have e3 : mergeD (ki acc) (ki (i :: is)) = mergeD (putD (ki acc) (.inl i) (.int 1)) (ki is) := rfl
    refine ⟨ls, by rw [e3, e, e2], by rw [List.length_cons]; omega, fun j hj => ?_⟩
    rcases h4 j hj with h | h
    · rcases h2 j h with h | h
      · exact .inl h
      · exact .inr (by rw [h]; exact List.mem_cons_self ..)
    · exact .inr (List.mem_cons_of_mem _ h)
theorem pairs_ki : ∀ is : List Int, pairsD (is.map fun i => D.tup [.int i, .int 1]) = some (ki is)
  | [] => rfl
  | i :: is => by
    have e : pairsD ((i :: is).map fun i => D.tup [.int i, .int 1]) = (pairsD (is.map fun i => D.tup [.int i, .int 1])).map fun r => ((.inl i : Key), D.int 1) :: r := rfl
    rw [e, pairs_ki is]
    rfl
theorem ints_map : ∀ is : List Int, intsOf (is.map D.int) = some is
  | [] => rfl
  | i :: is => by
    have e : intsOf ((i :: is).map D.int) = (intsOf (is.map D.int)).map fun r => i :: r := rfl
    rw [e, ints_map is]
    rfl
theorem tups_of {P : Int → Prop} : ∀ {ys : List D}, (∀ y ∈ ys, ∃ i : Int, y = .tup [.int i, .int 1] ∧ P i) → ∃ is : List Int, ys = is.map (fun i => D.tup [.int i, .int 1]) ∧ ∀ i ∈ is, P i
  | [], _ => ⟨[], rfl, fun _ h => nomatch h⟩
  | y :: ys, h => by
    obtain ⟨c, e, hc⟩ := h y (List.mem_cons_self ..)
    obtain ⟨cs, e2, h2⟩ := tups_of (ys := ys) fun z hz => h z (List.mem_cons_of_mem _ hz)
    refine ⟨c :: cs, by rw [e, e2]; rfl, fun x hx => ?_⟩
    rcases List.mem_cons.mp hx with rfl | hx
    · exact hc
    · exact h2 x hx
theorem l_s25 {num : List Nat} (hl : ρ.length = 27) (hn1 : 3 ≤ num.length) (hn2 : num.length ≤ 200) (h2 : At ρ 2 (.ref 0)) (h5 : At ρ 5 (.str (T num))) (hd : Dice st) :
    ∃ (ps : List Int) (st' : Store), Dice st' ∧ ps.length ≤ 2 ∧ (∀ p ∈ ps, 2 ≤ p) ∧ M_law_s25 ρ st = .nx (ρ.set 14 (some (.lst (ps.map D.int)))) st' := by
  obtain ⟨r, st1, hr, h3, e⟩ := roll_e (ρ := ρ) (f := sVal (.int 3)) (m := 3) h2 hd (by decide) (by decide) (fun _ => rfl)
  have hit := rng1_e (f := sCall F_law_roll (sCons (sVar 2) (sCons (sVal (.int 3)) sNil))) (ρ := ρ) (st := st) (st1 := st1) (n := (r : Int)) e (by omega) (by omega)
  obtain ⟨ys, st2, ec, q2, ql, hy⟩ := compL_inv (gt := gName' 12) (elt := sTupE (sCons (sBin dAdd (sVal (.int 2)) (sCall F_law_roll (sCons (sVar 2) (sCons (sBin dSub (sCall bLen (sCons (sVar 5) sNil)) (sVal (.int 2))) sNil)))) (sCons (sVal (.int 1)) sNil))) (ρ0 := wipeD ρ [12]) Dice (fun y => ∃ i : Int, y = .tup [.int i, .int 1] ∧ 2 ≤ i) (rngL 0 1 (r : Int).toNat) st1 h3 fun d _ st hs => by
    have v5 := (h5.blk (i := 12) (x := some d) (by omega)).v
    have bl : ∀ st : Store, bLen [.str (T num)] st = .ok (.int num.length) st := fun st => bLen_T (by unfold big; omega)
    obtain ⟨r2, st2, z1, z2, z3⟩ := roll_e (ρ := (wipeD ρ [12]).set 12 (some d)) (f := sBin dSub (sCall bLen (sCons (sVar 5) sNil)) (sVal (.int 2))) (m := num.length - 2) (h2.blk (by omega)) hs (by omega) (by omega) (fun st => by
      simp only [sBin_e, sCall_e, sCons_e, v5, R.bind_ok, sNil_e, bl, sVal_e, dSub_int]
      exact congrArg (fun z => R.ok (D.int z) st) (by omega))
    refine ⟨_, .tup [.int (2 + (r2 : Int)), .int 1], st2, gb (by omega), ?_, z2, 2 + (r2 : Int), rfl, by omega⟩
    rw [sTupE_e, sCons_e, sBin_e, sVal_e, R.bind_ok, z3]
    simp only [R.bind_ok, dAdd_int, sCons_e, sVal_e, sNil_e, mkT_e (st := st2) (ds := [D.int _, D.int 1]) (by show 2 ≤ big; decide)]
  obtain ⟨is, rfl, hP⟩ := tups_of hy
  rw [List.length_map, rng_len] at ql
  have ec2 := comp_wkL (m := false) (own := [12]) hit ec
  rw [mkB_f (by rw [List.length_map]; unfold big; omega)] at ec2
  obtain ⟨js, em, hj1, hj2⟩ := merge_ki is []
  have ed : bDictX pc_kc [.lst (is.map fun i => D.tup [.int i, .int 1])] st2 = .ok (.dK (ki js)) st2 := by
    have e : bDictX pc_kc [.lst (is.map fun i => D.tup [.int i, .int 1])] st2 = (match (some (is.map fun i => D.tup [.int i, .int 1])).bind pairsD with
      | some kvs => R.ok (.dK (mergeD [] kvs)) st2
      | none => .stuck) := rfl
    rw [e, Option.bind_some, pairs_ki]
    have em' : mergeD [] (ki is) = ki js := em
    simp only [em']
  have es : bSortX [.dK (ki js)] st2 = .ok (.lst ((sortI js).map D.int)) st2 := by
    have e : itemsX st2 (.dK (ki js)) = some (js.map D.int) := by
      have : itemsX st2 (.dK (ki js)) = some ((ki js).map fun p => keyD p.1) := rfl
      rw [this]
      unfold ki
      rw [List.map_map]
      rfl
    unfold bSortX
    simp only [e]
    rw [if_pos (by rw [List.length_map]; rw [List.length_nil] at hj1; unfold big; omega), ints_map]
  rw [List.length_nil] at hj1
  refine ⟨sortI js, st2, q2, by rw [(sortI_perm js).length_eq]; omega, fun p hp => ?_, ?_⟩
  · rw [(sortI_perm js).mem_iff] at hp
    rcases hj2 p hp with h | h
    · cases h
    · exact hP p h
  · unfold M_law_s25
    exact asg (by rw [sCall_e, sCons_e, sCall_e, sCons_e, ec2]; simp only [R.bind_ok, sNil_e, ed, es]) (by omega)
/-! signs left open -/
def hole (ps : List Int) (num : List Nat) : List Nat := num.zipIdx.map fun q => if ((q.2 : Nat) : Int) ∈ ps then 63 else q.1
theorem cEnum_list (ds : List D) : cEnum (cList ds) = cList (ds.zipIdx.map fun q => D.tup [.int (q.2 : Nat), q.1]) := by
  funext i st
  unfold cEnum cList
  rw [List.getElem?_map, List.getElem?_zipIdx]
  cases ds[i]? with
  | none => rfl
  | some d => simp
theorem g1217 {a b : D} (h : ρ.length = 27) : gTup' [gName' 12, gName' 17] (.tup [a, b]) ρ = some ((ρ.set 12 (some a)).set 17 (some b)) := by
  have e : gTup' [gName' 12, gName' 17] (.tup [a, b]) ρ = (gName' 12 a ρ).bind fun ρ1 => (gName' 17 b ρ1).bind fun ρ2 => some ρ2 := rfl
  rw [e, gn (by omega), Option.bind_some, gn (by rw [List.length_set]; omega), Option.bind_some]
theorem l_s26 {num : List Nat} {ps : List Int} (hl : ρ.length = 27) (hn2 : num.length ≤ 200) (h5 : At ρ 5 (.str (T num))) (h14 : At ρ 14 (.lst (ps.map D.int))) : M_law_s26 ρ st = .nx (ρ.set 15 (some (.str (T (hole ps num))))) st := by
  have hwl : (wipeD ρ [12, 17]).length = 27 := by simp [wipeD, hl]
  have hit : iEnum (sVar 5) ρ st = .ok (wkL (num.zipIdx.map fun q => D.tup [.int (q.2 : Nat), .str (T [q.1])])) st := by
    have e : iEnum (sVar 5) ρ st = (sVar 5 ρ st).bind fun d st1 => (match d with
      | .str x => .ok (wkL (chars x)) st1
      | .lst ds => .ok (wkL ds) st1
      | .ref l => (match st1[l]? with
        | some (.lst _) => .ok (wkR l) st1
        | _ => .stuck)
      | _ => .stuck : Bk.R Wk).bind fun w st2 => .ok ⟨cEnum w.cur, w.n, none⟩ st2 := rfl
    rw [e, h5.v, R.bind_ok]
    show R.ok (⟨cEnum (cList (chars (T num))), (chars (T num)).length + 1, none⟩ : Wk) st = _
    rw [cEnum_list, chars_T, List.zipIdx_map, List.map_map]
    unfold wkL
    rw [List.length_map, List.length_map, List.length_zipIdx]
    rfl
  have ec := comp_wkL (m := false) (own := [12, 17]) hit (compL_all (gt := gTup' [gName' 12, gName' 17]) (st := st) (elt := sIf (tVal (sBin (cmpF pc_kc .In) (sVar 12) (sVar 14))) (sVal (.str (T [63]))) (sVar 17)) (ρ0 := wipeD ρ [12, 17]) (fun q => D.tup [.int (q.2 : Nat), .str (T [q.1])]) (fun q => D.str (T [if ((q.2 : Nat) : Int) ∈ ps then 63 else q.1])) num.zipIdx fun q hq => ⟨_, g1217 hwl, by
    have w14 : At (wipeD ρ [12, 17]) 14 (.lst (ps.map D.int)) := (h14.set (i := 17) (x := none) (by omega)).set (i := 12) (x := none) (by omega)
    have v14 := ((w14.set (i := 12) (x := some (.int (q.2 : Nat))) (by omega)).set (i := 17) (x := some (.str (T [q.1]))) (by omega)).v st
    have v12 := ((At.self (ρ := wipeD ρ [12, 17]) (i := 12) (d := .int (q.2 : Nat)) (by omega)).set (i := 17) (x := some (.str (T [q.1]))) (by omega)).v st
    have v17 := (At.self (ρ := (wipeD ρ [12, 17]).set 12 (some (.int (q.2 : Nat)))) (i := 17) (d := .str (T [q.1])) (by rw [List.length_set]; omega)).v st
    simp only [sIf_e, tVal_e, sBin_e, v12, v14, R.bind_ok, cmp_inLI, rTr_bl]
    by_cases h : ((q.2 : Nat) : Int) ∈ ps
    · simp only [h, decide_true, rIf_t, sVal_e, if_true]
    · simp only [h, decide_false, rIf_f, v17, if_false]⟩)
  have em : (num.zipIdx.map fun q => D.str (T [if ((q.2 : Nat) : Int) ∈ ps then 63 else q.1])) = (hole ps num).map fun c => D.str (T [c]) := by
    unfold hole
    rw [List.map_map]
    rfl
  rw [em, mkB_f (by rw [List.length_map]; unfold hole; rw [List.length_map, List.length_zipIdx]; unfold big; omega)] at ec
  unfold M_law_s26
  refine asg ?_ (by omega)
  simp only [sMeth_e, sVal_e, R.bind_ok, mo_join, sCons_e, ec, sNil_e, mtRun_some, join_codes (st := st) (cs := hole ps num) (by unfold hole; rw [List.length_map, List.length_zipIdx]; omega)]
theorem hole_len (ps : List Int) (num : List Nat) : (hole ps num).length = num.length := by unfold hole; rw [List.length_map, List.length_zipIdx]
theorem hole_at {ps : List Int} {num : List Nat} {i : Nat} (h1 : i < num.length) (h2 : i < (hole ps num).length) : (hole ps num)[i] = if ((i : Nat) : Int) ∈ ps then 63 else num[i] := by
  have e : (hole ps num)[i]? = some (if ((i : Nat) : Int) ∈ ps then 63 else num[i]) := by
    unfold hole
    rw [List.getElem?_map, List.getElem?_zipIdx, List.getElem?_eq_getElem h1, Option.map_some, Option.map_some, Nat.zero_add]
  rw [List.getElem?_eq_getElem h2] at e
  exact Option.some.inj e
theorem hole_two {ps : List Int} {num : List Nat} (h : ∀ p ∈ ps, 2 ≤ p) : (hole ps num).take 2 = num.take 2 := by
  refine List.ext_getElem (by rw [List.length_take, List.length_take, hole_len]) fun i h1 h2 => ?_
  rw [List.getElem_take, List.getElem_take]
  rw [List.length_take] at h1
  rw [hole_at (by rw [List.length_take] at h2; omega)]
  rw [if_neg]
  intro z
  have := h _ z
  omega
theorem hole_mem {ps : List Int} {num : List Nat} {i : Nat} (h1 : i < num.length) (h2 : i < (hole ps num).length) (hd : num[i] ≠ 63 ∧ (isD num[i] = true ∨ ((i : Nat) : Int) ∉ ps)) : num[i] ∈ opts (hole ps num)[i] := by
  rw [hole_at h1 h2]
  unfold opts
  by_cases hp : ((i : Nat) : Int) ∈ ps
  · rw [if_pos hp, if_pos rfl]
    rcases hd.2 with h | h
    · exact mem_dig.mpr (isD_iff.mp h)
    · exact absurd hp h
  · rw [if_neg hp, if_neg hd.1]
    exact List.mem_singleton.mpr rfl
/-- no more open signs than places -/
theorem count_zip (ps : List Int) : ∀ (num : List Nat) (k : Nat), (∀ c ∈ num, c ≠ 63) → ((num.zipIdx k).map fun q => if ((q.2 : Nat) : Int) ∈ ps then 63 else q.1).count 63 ≤ (ps.filter fun p => decide ((k : Int) ≤ p)).length
  | [], k, _ => by simp
  | c :: num, k, h => by
    have ih := count_zip ps num (k + 1) fun x hx => h x (List.mem_cons_of_mem _ hx)
    rw [List.zipIdx_cons, List.map_cons, List.count_cons]
    have hc := h c (List.mem_cons_self ..)
    by_cases hp : ((k : Nat) : Int) ∈ ps
    · rw [if_pos hp]
      have : (ps.filter fun p => decide (((k + 1 : Nat) : Int) ≤ p)).length + 1 ≤ (ps.filter fun p => decide ((k : Int) ≤ p)).length := by
        clear ih h hc
        induction ps with
        | nil => cases hp
        | cons p ps ihp =>
          rw [List.filter_cons, List.filter_cons]
          by_cases hk : (k : Int) = p
          · have d1 : decide (((k + 1 : Nat) : Int) ≤ p) = false := decide_eq_false (by omega)
            have d2 : decide ((k : Int) ≤ p) = true := decide_eq_true (by omega)
            rw [d1, d2, if_neg Bool.false_ne_true, if_pos rfl, List.length_cons]
            have : (ps.filter fun p => decide (((k + 1 : Nat) : Int) ≤ p)).length ≤ (ps.filter fun p => decide ((k : Int) ≤ p)).length := by
              clear ihp hp
              induction ps with
              | nil => exact Nat.le_refl _
              | cons x xs ih =>
                rw [List.filter_cons, List.filter_cons]
                by_cases a : ((k + 1 : Nat) : Int) ≤ x
                · have b : (k : Int) ≤ x := by omega
                  rw [decide_eq_true a, decide_eq_true b, if_pos rfl, if_pos rfl, List.length_cons, List.length_cons]
                  omega
                · rw [decide_eq_false a, if_neg Bool.false_ne_true]
                  split
                  · rw [List.length_cons]; omega
                  · exact ih
            omega
          · have hm : (k : Int) ∈ ps := (List.mem_cons.mp hp).resolve_left hk
            have := ihp hm
            by_cases a : ((k + 1 : Nat) : Int) ≤ p
            · have b : (k : Int) ≤ p := by omega
              rw [decide_eq_true a, decide_eq_true b, if_pos rfl, if_pos rfl, List.length_cons, List.length_cons]
              omega
            · have b : ¬ (k : Int) ≤ p := by omega
              rw [decide_eq_false a, decide_eq_false b, if_neg Bool.false_ne_true, if_neg Bool.false_ne_true]
              exact this
      have e63 : ((63 : Nat) == 63) = true := rfl
      rw [e63, if_pos rfl]
      omega
    · rw [if_neg hp]
      have : (c == 63) = false := by simp [hc]
      rw [this, if_neg Bool.false_ne_true, Nat.add_zero]
      refine Nat.le_trans ih ?_
      clear ih h hc hp this
      induction ps with
      | nil => exact Nat.le_refl _
      | cons x xs ih =>
        rw [List.filter_cons, List.filter_cons]
        by_cases a : ((k + 1 : Nat) : Int) ≤ x
        · have b : (k : Int) ≤ x := by omega
          rw [decide_eq_true a, decide_eq_true b, if_pos rfl, if_pos rfl, List.length_cons, List.length_cons]
          omega
        · rw [decide_eq_false a, if_neg Bool.false_ne_true]
          split
          · rw [List.length_cons]; omega
          · exact ih
theorem hole_count {ps : List Int} {num : List Nat} (h : ∀ c ∈ num, c ≠ 63) (hp : ps.length ≤ 2) : (hole ps num).count 63 ≤ 3 := by
  have h1 := count_zip ps num 0 h
  have h2 : (ps.filter fun p => decide (((0 : Nat) : Int) ≤ p)).length ≤ ps.length := List.length_filter_le ..
  unfold hole
  have e : num.zipIdx = num.zipIdx 0 := rfl
  rw [e]
  omega
theorem l_s27 (hl : ρ.length = 27) : M_law_s27 ρ st = .nx (ρ.set 16 (some (.lst (([[]] : List (List Nat)).map fun o => D.str (T o))))) st := by
  unfold M_law_s27
  exact asg (by simp only [sLstE_e, sCons_e, sVal_e, sNil_e, R.bind_ok, mkL_f (st := st) (ds := [D.str (T [])]) (by decide)]; rfl) (by omega)
end
end K03

namespace K03
open L2 PyProof.Rows PySem.Spec PySem Bk
section
variable {ρ : Lc} {st : Store}
/-! rows, as the law makes them -/
theorem fresh_turn {acc : List (List Nat)} {r : List Nat} {c : Nat} (hl : ρ.length = 27) (hr : r.length ≤ 1000) (hb : acc.length ≤ 2000000) (h17 : At ρ 17 (.str (T [c]))) (h20 : At ρ 20 (.lst (acc.map fun o => D.str (T o)))) (h21 : At ρ 21 (.str (T r))) :
    M_law_f29 ρ st = .nx (ρ.set 20 (some (.lst ((acc ++ (opts c).map fun d => r ++ [d]).map fun o => D.str (T o))))) st := by
  have hit : iVal (sIf (tVal (sBin (cmpF pc_kc .Eq) (sVar 17) (sVal (.str (T [63]))))) (sVal (.str (T [48, 49, 50, 51, 52, 53, 54, 55, 56, 57]))) (sVar 17)) ρ st = .ok (wkL ((opts c).map fun d => D.str (T [d]))) st := by
    unfold opts
    by_cases h : c = 63
    · subst h
      have q : (T [63] == T [63]) = true := beq_self_eq_true _
      simp only [iVal_e, sIf_e, tVal_e, sBin_e, h17.v, sVal_e, R.bind_ok, cmp_eqS, q, rTr_bl, rIf_t, dIter_T, if_true]
    · have q : (T [c] == T [63]) = false := by rw [T_beq]; simp [h]
      simp only [iVal_e, sIf_e, tVal_e, sBin_e, h17.v, sVal_e, R.bind_ok, cmp_eqS, q, rTr_bl, rIf_f, dIter_T, if_neg h]
  have ec := comp_wkL (m := false) (own := [26]) hit (compL_all (gt := gName' 26) (st := st) (elt := sBin dAdd (sVar 21) (sVar 26)) (ρ0 := wipeD ρ [26]) (fun d => D.str (T [d])) (fun d => D.str (T (r ++ [d]))) (opts c) fun d _ => ⟨_, gb (by omega), by
    have v26 := (At.bself (ρ := ρ) (i := 26) (d := .str (T [d])) (by omega)).v st
    have v21 := (h21.blk (i := 26) (x := some (.str (T [d]))) (by omega)).v st
    have a : dAdd (.str (T r)) (.str (T [d])) st = .ok (.str (T (r ++ [d]))) st := dAdd_T (by show _ + 1 ≤ big; unfold big; omega)
    simp only [sBin_e, v21, v26, R.bind_ok, a]⟩)
  have ho := opts_len c
  have ho : (opts c).length ≤ 10 := by split at ho <;> omega
  rw [mkB_f (by rw [List.length_map]; unfold big; omega)] at ec
  unfold M_law_f29
  have e1 : sAsg (sBin dAdd (sVar 20) (sComp false [26] (iVal (sIf (tVal (sBin (cmpF pc_kc .Eq) (sVar 17) (sVal (.str (T [63]))))) (sVal (.str (T [48, 49, 50, 51, 52, 53, 54, 55, 56, 57]))) (sVar 17))) (gName' 26) tYesE (sBin dAdd (sVar 21) (sVar 26)))) (gName' 20) ρ st = .nx (ρ.set 20 (some (.lst ((acc ++ (opts c).map fun d => r ++ [d]).map fun o => D.str (T o))))) st := by
    refine asg ?_ (by omega)
    rw [sBin_e, h20.v, R.bind_ok, ec, R.bind_ok, dAdd_lst (by rw [List.length_map, List.length_map]; unfold big; omega), List.map_append, List.map_map]
    rfl
  rw [seq_nx e1, sNx_e]
theorem fresh_loop {c k : Nat} (hk : k ≤ 1000) : ∀ (rs acc : List (List Nat)) (ρ : Lc), ρ.length = 27 → (∀ r ∈ rs, r.length = k) → acc.length + 10 * rs.length ≤ 2000000 → At ρ 17 (.str (T [c])) → At ρ 20 (.lst (acc.map fun o => D.str (T o))) →
    ∃ ρ', forL (gName' 21) M_law_f29 (rs.map fun r => D.str (T r)) ρ st = .nx ρ' st ∧ ρ'.length = 27 ∧ At ρ' 20 (.lst ((acc ++ rowStep rs c).map fun o => D.str (T o))) ∧ ∀ j, j ≠ 20 → j ≠ 21 → ρ'[j]? = ρ[j]?
  | [], acc, ρ, h1, _, _, _, h4 => ⟨ρ, rfl, h1, by show At ρ 20 (.lst ((acc ++ []).map _)); rw [List.append_nil]; exact h4, fun _ _ _ => rfl⟩
  | r :: rs, acc, ρ, h1, h2, hb, h3, h4 => by
    rw [List.length_cons] at hb
    have ho := opts_len c
    have ho : (opts c).length ≤ 10 := by split at ho <;> omega
    have hl2 : (ρ.set 21 (some (.str (T r)))).length = 27 := by rw [List.length_set]; exact h1
    have e1 := fresh_turn (ρ := ρ.set 21 (some (.str (T r)))) (st := st) (acc := acc) (r := r) (c := c) hl2 (by rw [h2 r (List.mem_cons_self ..)]; exact hk) (by omega) (h3.set (by omega)) (h4.set (by omega)) (At.self (by omega))
    obtain ⟨ρ', e2, g1, g2, g3⟩ := fresh_loop hk rs (acc ++ (opts c).map fun d => r ++ [d]) ((ρ.set 21 (some (.str (T r)))).set 20 (some (.lst ((acc ++ (opts c).map fun d => r ++ [d]).map fun o => D.str (T o))))) (by rw [List.length_set]; exact hl2) (fun x hx => h2 x (List.mem_cons_of_mem _ hx)) (by rw [List.length_append, List.length_map]; omega) ((h3.set (by omega)).set (by omega)) (At.self (by omega))
    refine ⟨ρ', ?_, g1, ?_, fun j hj1 hj2 => ?_⟩
    · rw [List.map_cons, forL_cons (gn (by omega)), e1]
      exact e2
    · have e : rowStep (r :: rs) c = ((opts c).map fun d => r ++ [d]) ++ rowStep rs c := by unfold rowStep; rw [List.flatMap_cons]
      rw [e, ← List.append_assoc]
      exact g2
    · rw [g3 j hj1 hj2, List.getElem?_set_ne (Ne.symm hj1), List.getElem?_set_ne (Ne.symm hj2)]
theorem rows_turn {c k : Nat} {rs : List (List Nat)} (hl : ρ.length = 27) (hk : k ≤ 1000) (h2 : ∀ r ∈ rs, r.length = k) (hb : rs.length ≤ 100000) (h16 : At ρ 16 (.lst (rs.map fun o => D.str (T o)))) (h17 : At ρ 17 (.str (T [c]))) :
    ∃ ρ', M_law_f28 ρ st = .nx ρ' st ∧ ρ'.length = 27 ∧ At ρ' 16 (.lst ((rowStep rs c).map fun o => D.str (T o))) ∧ ∀ j, j ≠ 16 → j ≠ 20 → j ≠ 21 → ρ'[j]? = ρ[j]? := by
  have hl2 : (ρ.set 20 (some (.lst (([] : List (List Nat)).map fun o => D.str (T o))))).length = 27 := by rw [List.length_set]; exact hl
  have e0 : sAsg (sLstE false sNil) (gName' 20) ρ st = .nx (ρ.set 20 (some (.lst (([] : List (List Nat)).map fun o => D.str (T o))))) st := asg (by simp only [sLstE_e, sNil_e, R.bind_ok, mkL_f (st := st) (ds := []) (by decide)]; rfl) (by omega)
  obtain ⟨ρ', e1, g1, g2, g3⟩ := fresh_loop (st := st) hk rs [] (ρ.set 20 (some (.lst (([] : List (List Nat)).map fun o => D.str (T o))))) hl2 h2 (by rw [List.length_nil]; omega) (h17.set (by omega)) (At.self (by omega))
  rw [List.nil_append] at g2
  have e1' : sForS (iVal (sVar 16)) (gName' 21) M_law_f29 (ρ.set 20 (some (.lst (([] : List (List Nat)).map fun o => D.str (T o))))) st = .nx ρ' st := by
    rw [for_wkL (ds := rs.map fun r => D.str (T r)) (st1 := st) (by simp only [iVal_e, (h16.set (i := 20) (by omega)).v, R.bind_ok, dIter_lst])]
    exact e1
  have e2 : sAsg (sVar 20) (gName' 16) ρ' st = .nx (ρ'.set 16 (some (.lst ((rowStep rs c).map fun o => D.str (T o))))) st := asg (g2.v st) (by omega)
  refine ⟨ρ'.set 16 (some (.lst ((rowStep rs c).map fun o => D.str (T o)))), ?_, by rw [List.length_set]; exact g1, At.self (by omega), fun j j1 j2 j3 => ?_⟩
  · unfold M_law_f28
    rw [seq_nx e0, seq_nx e1', seq_nx e2, sNx_e]
  · rw [List.getElem?_set_ne (Ne.symm j1), g3 j j2 j3, List.getElem?_set_ne (Ne.symm j2)]
theorem rows_loop : ∀ (cs : List Nat) (rs : List (List Nat)) (k : Nat) (ρ : Lc), ρ.length = 27 → (∀ r ∈ rs, r.length = k) → k + cs.length ≤ 1000 → rs.length * 10 ^ (cs.count 63) ≤ 1000 → At ρ 16 (.lst (rs.map fun o => D.str (T o))) →
    ∃ ρ', forL (gName' 17) M_law_f28 (cs.map fun c => D.str (T [c])) ρ st = .nx ρ' st ∧ ρ'.length = 27 ∧ At ρ' 16 (.lst ((cs.foldl rowStep rs).map fun o => D.str (T o))) ∧ ∀ j, j ≠ 16 → j ≠ 17 → j ≠ 20 → j ≠ 21 → ρ'[j]? = ρ[j]?
  | [], rs, k, ρ, h1, _, _, _, h4 => ⟨ρ, rfl, h1, h4, fun _ _ _ _ _ => rfl⟩
  | c :: cs, rs, k, ρ, h1, h2, hk, hb, h4 => by
    rw [List.length_cons] at hk
    have hl2 : (ρ.set 17 (some (.str (T [c])))).length = 27 := by rw [List.length_set]; exact h1
    have hrs : rs.length ≤ 1000 := Nat.le_trans (Nat.le_mul_of_pos_right rs.length (Nat.pow_pos (by omega))) hb
    have hb2 : (rowStep rs c).length * 10 ^ (cs.count 63) ≤ 1000 := by
      have q1 := rowStep_len rs c
      rw [List.count_cons] at hb
      by_cases hc : c = 63
      · rw [if_pos hc] at q1
        subst hc
        simp only [beq_self_eq_true, if_true, Nat.pow_succ] at hb
        refine Nat.le_trans (Nat.mul_le_mul_right _ q1) ?_
        rw [Nat.mul_assoc, Nat.mul_comm 10]
        exact hb
      · rw [if_neg hc, Nat.mul_one] at q1
        have : (c == 63) = false := by simp [hc]
        rw [this] at hb
        simp only [Bool.false_eq_true, if_false, Nat.add_zero] at hb
        exact Nat.le_trans (Nat.mul_le_mul_right _ q1) hb
    obtain ⟨ρ1, e1, g1, g2, g3⟩ := rows_turn (ρ := ρ.set 17 (some (.str (T [c])))) (st := st) (c := c) (k := k) (rs := rs) hl2 (by omega) h2 (by omega) (h4.set (by omega)) (At.self (by omega))
    obtain ⟨ρ', e2, g4, g5, g6⟩ := rows_loop cs (rowStep rs c) (k + 1) ρ1 g1 (rowStep_each h2) (by omega) hb2 g2
    refine ⟨ρ', ?_, g4, g5, fun j j1 j2 j3 j4 => ?_⟩
    · rw [List.map_cons, forL_cons (gn (by omega)), e1]
      exact e2
    · rw [g6 j j1 j2 j3 j4, g3 j j1 j3 j4, List.getElem?_set_ne (Ne.symm j2)]
theorem l_s30 {h : List Nat} (hl : ρ.length = 27) (hb : h.length ≤ 200) (hc : h.count 63 ≤ 3) (h15 : At ρ 15 (.str (T h))) (h16 : At ρ 16 (.lst (([[]] : List (List Nat)).map fun o => D.str (T o)))) :
    ∃ ρ', M_law_s30 ρ st = .nx ρ' st ∧ ρ'.length = 27 ∧ At ρ' 16 (.lst ((rowsOf h).map fun o => D.str (T o))) ∧ ∀ j, j ≠ 16 → j ≠ 17 → j ≠ 20 → j ≠ 21 → ρ'[j]? = ρ[j]? := by
  obtain ⟨ρ', e, g1, g2, g3⟩ := rows_loop (st := st) h [[]] 0 ρ hl (by simp) (by omega) (by
    rw [List.length_singleton, Nat.one_mul]
    exact Nat.le_trans (Nat.pow_le_pow_right (by omega) hc) (by decide)) h16
  refine ⟨ρ', ?_, g1, g2, g3⟩
  unfold M_law_s30
  rw [for_wkL (ds := h.map fun c => D.str (T [c])) (st1 := st) (by simp only [iVal_e, h15.v, R.bind_ok, dIter_T])]
  exact e
theorem l_s32 {h num : List Nat} {n : Nat} (hl : ρ.length = 27) (hs : sizeL (h.take 2) = some n) (hln : h.length = n + 4) (hc : h.count 63 ≤ 3) (hm : num ∈ rowsOf h) (hg : good num = true) (h5 : At ρ 5 (.str (T num))) (h15 : At ρ 15 (.str (T h))) (h16 : At ρ 16 (.lst ((rowsOf h).map fun o => D.str (T o)))) : M_law_s32 ρ st = .nx ρ st := by
  have hsz := size_b hs
  have f1 := f_missing (st := st) hs hln hc
  have bl : bListS [.tup ((missS h).map D.str)] st = .ok (.lst ((missS h).map D.str)) st := rfl
  have hlen := rows_each h [[]] 0 (by simp)
  have hfit : (rowsOf h).length ≤ 1000000 := rows_fit h [[]] (by
    rw [List.length_singleton, Nat.one_mul]
    exact Nat.le_trans (Nat.pow_le_pow_right (by omega) hc) (by decide))
  have ec := comp_wkL (m := false) (own := [26]) (it := iVal (sVar 16)) (ρ := ρ) (st := st) (by simp only [iVal_e, h16.v, R.bind_ok, dIter_lst]) (compL_map (gt := gName' 26) (st := st) (test := tVal (sCall F_law_good (sCons (sVar 26) sNil))) (elt := sVar 26) (ρ0 := wipeD ρ [26]) (fun o => D.str (T o)) good (fun o => D.str (T o)) (rowsOf h) fun o ho => ⟨_, gb (by omega), by
    have v26 := (At.bself (ρ := ρ) (i := 26) (d := .str (T o)) (by omega)).v
    have hlo := hlen o ho
    have hgo : F_law_good [.str (T o)] st = .ok (.bl (good o)) st := f_law_good (by omega)
    simp only [tVal_e, sCall_e, sCons_e, v26, R.bind_ok, sNil_e, hgo, rTr_bl], fun _ => (At.bself (ρ := ρ) (i := 26) (d := .str (T o)) (by omega)).v st⟩)
  have hfl : ((rowsOf h).filter good).length ≤ (rowsOf h).length := List.length_filter_le ..
  rw [mkB_f (by rw [List.length_map]; unfold big; omega)] at ec
  have es : bSortX [.lst (((rowsOf h).filter good).map fun o => D.str (T o))] st = .ok (.lst ((missS h).map D.str)) st := sortX_strs (xs := ((rowsOf h).filter good).map T) (by
    rw [List.map_map]
    rfl) (by rw [List.length_map]; unfold big; omega)
  have hmem : decide (T num ∈ missS h) = true := decide_eq_true (by
    unfold missS
    rw [(sortS_perm _).mem_iff]
    exact List.mem_map.mpr ⟨num, List.mem_filter.mpr ⟨hm, hg⟩, rfl⟩)
  unfold M_law_s32
  rw [sIfS_e, tOr_e, tVal_e, sBin_e]
  simp only [sCall_e, sCons_e, h15.v, R.bind_ok, sNil_e, f1, bl]
  rw [ec]
  simp only [R.bind_ok, sNil_e, es, cmp_neLS, decide_true, Bool.not_true, rTr_bl, rOr_f]
  simp only [tVal_e, sBin_e, h5.v, R.bind_ok, sCall_e, sCons_e, h15.v, sNil_e, f1, cmp_niTS, hmem, Bool.not_true, rTr_bl, rSt_f, sNx_e]
end
end K03

namespace K03
open L2 PyProof.Rows PySem.Spec PySem Bk
section
variable {ρ : Lc} {st : Store}
theorem l_s33 (hl : ρ.length = 27) (h2 : At ρ 2 (.ref 0)) (hd : Dice st) : ∃ bank count st', bank.length ≤ 7 ∧ bank.all isD = true ∧ count < 100000 ∧ Dice st' ∧ M_law_s33 ρ st = .nx ((ρ.set 22 (some (.str (T bank)))).set 23 (some (.int ((count : Nat) : Int)))) st' := by
  obtain ⟨r, st1, hr, h3, e⟩ := roll_e (ρ := ρ) (f := sVal (.int 8)) (m := 8) h2 hd (by decide) (by decide) (fun _ => rfl)
  have hit := rng1_e (f := sCall F_law_roll (sCons (sVar 2) (sCons (sVal (.int 8)) sNil))) (ρ := ρ) (st := st) (st1 := st1) (n := (r : Int)) e (by omega) (by omega)
  obtain ⟨cs, st2, h4, h5, h6, e2⟩ := roll_join (P := fun c => isD c = true) (i := 12) (elt := sCall bStr (sCons (sCall F_law_roll (sCons (sVar 2) (sCons (sVal (.int 10)) sNil))) sNil)) (by omega) hit h3 (by rw [rng_len]; omega) fun d _ st hs => by
    obtain ⟨c, st', q1, q2, q3⟩ := roll_str (f := sVal .non) (ρ := (wipeD ρ [12]).set 12 (some d)) (h2.blk (by omega)) hs
    exact ⟨c, st', q1, q2, q3⟩
  obtain ⟨count, st3, hc, h7, e3⟩ := roll_e (ρ := ρ) (f := sVal (.int 100000)) (m := 100000) h2 h4 (by decide) (by decide) (fun _ => rfl)
  rw [rng_len] at h5
  refine ⟨cs, count, st3, by omega, List.all_eq_true.mpr h6, hc, h7, ?_⟩
  unfold M_law_s33
  have et : (sTupE (sCons (sMeth "join" (sVal (.str (T []))) (sCons (sComp false [12] (iRng1' (sCall F_law_roll (sCons (sVar 2) (sCons (sVal (.int 8)) sNil)))) (gName' 12) tYesE (sCall bStr (sCons (sCall F_law_roll (sCons (sVar 2) (sCons (sVal (.int 10)) sNil))) sNil))) sNil)) (sCons (sCall F_law_roll (sCons (sVar 2) (sCons (sVal (.int 100000)) sNil))) sNil))) ρ st = .ok (.tup [.str (T cs), .int ((count : Nat) : Int)]) st3 := by
    rw [sTupE_e, sCons_e, e2, R.bind_ok, sCons_e, e3]
    simp only [R.bind_ok, sNil_e, mkT_e (st := st3) (ds := [D.str _, D.int _]) (by show 2 ≤ big; decide)]
  rw [sAsg_e, et, sE2_ok]
  have e : gTup' [gName' 22, gName' 23] (.tup [.str (T cs), .int ((count : Nat) : Int)]) ρ = (gName' 22 (.str (T cs)) ρ).bind fun ρ1 => (gName' 23 (.int ((count : Nat) : Int)) ρ1).bind fun ρ2 => some ρ2 := rfl
  unfold gAsg
  rw [e, gn (by omega), Option.bind_some, gn (by rw [List.length_set]; omega), Option.bind_some]
def zerosI (n : Nat) (bank : List Nat) (count : Nat) : Int := (n : Int) - (bank.length : Int) - ((TL.numL count).length : Int)
theorem l_s34 {land bank : List Nat} {n count : Nat} (hs : sizeL land = some n) (hb : bank.length ≤ 7) (hc : count < 100000) (hl : ρ.length = 27) (h3 : At ρ 3 (.str (T land))) (h22 : At ρ 22 (.str (T bank))) (h23 : At ρ 23 (.int ((count : Nat) : Int))) : M_law_s34 ρ st = .nx (ρ.set 18 (some (.int (zerosI n bank count)))) st := by
  have hn : (TL.numL count).length ≤ 5 := TL.numL_len (by omega) (by omega)
  have eb : bStr [.int (count : Nat)] st = .ok (.str (T (TL.numL count))) st := bStr_num (small_pow (by omega))
  have l1 : bLen [.str (T bank)] st = .ok (.int bank.length) st := bLen_T (by unfold big; omega)
  have l2 : bLen [.str (T (TL.numL count))] st = .ok (.int (TL.numL count).length) st := bLen_T (by unfold big; omega)
  unfold M_law_s34
  refine asg ?_ (by omega)
  simp only [sBin_e, sVal_e, R.bind_ok, h3.v, ix_lands hs, sCall_e, sCons_e, h22.v, sNil_e, l1, dSub_int, h23.v, eb, l2]
  rfl
theorem ser_ok {bank : List Nat} {n count : Nat} (hbd : bank.all isD = true) (hf : bank.length + (TL.numL count).length ≤ n) : (serL n bank count).length = n ∧ (serL n bank count).all isD = true := by
  constructor
  · unfold serL
    rw [List.length_append, List.length_append, List.length_replicate]
    omega
  · unfold serL
    rw [List.all_append, List.all_append, hbd, Bool.true_and, Bool.and_eq_true]
    refine ⟨List.all_eq_true.mpr fun x hx => ?_, List.all_eq_true.mpr fun x hx => isD_iff.mpr (TL.numL_digits count x hx)⟩
    rw [(List.mem_replicate.mp hx).2]
    rfl
def toldL (land : List Nat) (n : Nat) (bank : List Nat) (count : Nat) : List Nat := if bank.length + (TL.numL count).length ≤ n then numOf land (serL n bank count) else eT
theorem l_s35 {land bank : List Nat} {n count : Nat} (hs : sizeL land = some n) (hb : bank.length ≤ 7) (hbd : bank.all isD = true) (hc : count < 100000) (hl : ρ.length = 27) (h3 : At ρ 3 (.str (T land))) (h22 : At ρ 22 (.str (T bank))) (h23 : At ρ 23 (.int ((count : Nat) : Int))) : M_law_s35 ρ st = .nx (ρ.set 19 (some (.str (T (toldL land n bank count))))) st := by
  have hsz := size_b hs
  have hn : (TL.numL count).length ≤ 5 := TL.numL_len (by omega) (by omega)
  have fs := f_serial (st := st) hs (bank := bank) (count := count) (by omega) hc
  unfold M_law_s35
  refine asg ?_ (by omega)
  rw [sTold_e (F := sCall F_serial (sCons (sVar 3) (sCons (sVar 22) (sCons (sVar 23) sNil)))) run_20]
  simp only [sCall_e, sCons_e, h3.v, h22.v, h23.v, R.bind_ok, sNil_e, fs]
  unfold toldL
  by_cases hf : bank.length + (TL.numL count).length ≤ n
  · obtain ⟨k1, k2⟩ := ser_ok hbd hf
    have fw := f_with_check (st := st) (land := land) (fig := serL n bank count) (by omega) (by omega)
    rw [hs] at fw
    simp only at fw
    rw [if_pos ⟨k1, k2⟩] at fw
    rw [if_pos hf, if_pos hf, fw, told_ok]
  · rw [if_neg hf, if_neg hf, told_exn (by rfl)]
theorem num_ne {land fig : List Nat} {n : Nat} (hs : sizeL land = some n) : numOf land fig ≠ eT := by
  intro z
  have z2 := congrArg List.head? z
  unfold numOf at z2
  rcases size_cases hs with ⟨rfl, _⟩ | ⟨rfl, _⟩ | ⟨rfl, _⟩ | ⟨rfl, _⟩ | ⟨rfl, _⟩ <;> simp at z2
theorem l_s37 {land bank : List Nat} {n count : Nat} (hs : sizeL land = some n) (h18 : At ρ 18 (.int (zerosI n bank count))) (h19 : At ρ 19 (.str (T (toldL land n bank count)))) : M_law_s37 ρ st = .nx ρ st := by
  have key : (T (toldL land n bank count) == T [78, 117, 109, 98, 101, 114, 69, 114, 114, 111, 114]) = decide (zerosI n bank count < 0) := by
    rw [T_beq]
    unfold toldL zerosI
    by_cases hf : bank.length + (TL.numL count).length ≤ n
    · rw [if_pos hf, decide_eq_false (num_ne hs), decide_eq_false (by omega)]
    · rw [if_neg hf, decide_eq_true rfl, decide_eq_true (by omega)]
  unfold M_law_s37
  simp only [sIfS_e, tVal_e, sBin_e, h18.v, h19.v, sVal_e, R.bind_ok, cmp_eqS, key, cmp_lt, cmp_neB, beq_self_eq_true, Bool.not_true, rTr_bl, rSt_f, sNx_e]
theorem l_s39 {land bank : List Nat} {n count : Nat} (hs : sizeL land = some n) (hb : bank.length ≤ 7) (hbd : bank.all isD = true) (hc : count < 100000) (h18 : At ρ 18 (.int (zerosI n bank count))) (h19 : At ρ 19 (.str (T (toldL land n bank count)))) (h22 : At ρ 22 (.str (T bank))) (h23 : At ρ 23 (.int ((count : Nat) : Int))) : M_law_s39 ρ st = .nx ρ st := by
  have hsz := size_b hs
  have hn : (TL.numL count).length ≤ 5 := TL.numL_len (by omega) (by omega)
  unfold M_law_s39
  by_cases hf : bank.length + (TL.numL count).length ≤ n
  · obtain ⟨k1, k2⟩ := ser_ok hbd hf
    have et : toldL land n bank count = numOf land (serL n bank count) := by unfold toldL; rw [if_pos hf]
    rw [et] at h19
    have hz : (0 : Int) ≤ zerosI n bank count := by unfold zerosI; omega
    have ez : zerosI n bank count = ((n - bank.length - (TL.numL count).length : Nat) : Int) := by unfold zerosI; omega
    have nl : (numOf land (serL n bank count)).length = n + 4 := by
      unfold numOf
      rw [List.length_append, List.length_append, k1]
      show _ + (2 + _) = _
      omega
    have q1 : dSlice false (.str (T (numOf land (serL n bank count)))) (some 4) none st = .ok (.str (T (serL n bank count))) st := by
      rw [dSl_from (by omega) (by unfold big; omega)]
      refine congrArg (fun z => R.ok (D.str (T z)) st) ?_
      show (land ++ (two _ ++ serL n bank count)).drop 4 = _
      have e4 : (land ++ (two (chkOf land (serL n bank count)) ++ serL n bank count)).drop 4 = ((land ++ (two (chkOf land (serL n bank count)) ++ serL n bank count)).drop 2).drop 2 := by rw [List.drop_drop]
      rw [e4]
      have e5 : (land ++ (two (chkOf land (serL n bank count)) ++ serL n bank count)).drop 2 = two (chkOf land (serL n bank count)) ++ serL n bank count := by rw [← hsz.1]; exact List.drop_left
      rw [e5]
      exact List.drop_left (l₁ := two (chkOf land (serL n bank count)))
    have r0 := rep0 (st := st) (k := n - bank.length - (TL.numL count).length) (by omega)
    have a1 : dAdd (.str (T bank)) (.str (T (List.replicate (n - bank.length - (TL.numL count).length) 48))) st = .ok (.str (T (bank ++ List.replicate (n - bank.length - (TL.numL count).length) 48))) st := dAdd_T (by rw [List.length_replicate]; unfold big; omega)
    have a2 : dAdd (.str (T (bank ++ List.replicate (n - bank.length - (TL.numL count).length) 48))) (.str (T (TL.numL count))) st = .ok (.str (T (serL n bank count))) st := dAdd_T (by rw [List.length_append, List.length_replicate]; unfold big; omega)
    have eb : bStr [.int (count : Nat)] st = .ok (.str (T (TL.numL count))) st := bStr_num (small_pow (by omega))
    have lg : F_law_good [.str (T (numOf land (serL n bank count)))] st = .ok (.bl true) st := by
      rw [f_law_good (by omega), num_good hs k1 k2]
    have eqs : ∀ x : Str, (x == x) = true := fun x => beq_self_eq_true x
    rw [sIfS_e, tAnd_e, tVal_e, sBin_e]
    simp only [h18.v, sVal_e, R.bind_ok, cmp_ge, hz, decide_true, rTr_bl, rAnd_t]
    rw [tOr_e, tVal_e, sBin_e]
    simp only [sSlice_e, h19.v, R.bind_ok, pSome_e, sVal_e, rPt_int, pNone_e, q1, sBin_e, h22.v, h18.v, ez, r0, a1, sCall_e, sCons_e, h23.v, sNil_e, eb, a2, cmp_neS, eqs, Bool.not_true, rTr_bl, rOr_f]
    simp only [tNot_e, tVal_e, sCall_e, sCons_e, h19.v, R.bind_ok, sNil_e, lg, rTr_bl, Bool.not_true, rSt_f, sNx_e]
  · have hz : ¬ (0 : Int) ≤ zerosI n bank count := by unfold zerosI; omega
    rw [sIfS_e, tAnd_e, tVal_e, sBin_e]
    simp only [h18.v, sVal_e, R.bind_ok, cmp_ge, hz, decide_false, rTr_bl, rAnd_f, rSt_f, sNx_e]
/-! one round -/
theorem l_f0 (hl : ρ.length = 27) (h1 : At ρ 1 landsD) (h2 : At ρ 2 (.ref 0)) (hd : Dice st) : ∃ ρ' st', Dice st' ∧ M_law_f0 ρ st = .nx ρ' st' := by
  obtain ⟨land, n, st1, hs, hd1, e1⟩ := l_s1 hl h1 h2 hd
  have hsz := size_b hs
  -- ρ1: 3
  have a2 := h2.set (i := 3) (x := some (.str (T land))) (by omega)
  have a3 := At.self (ρ := ρ) (i := 3) (d := .str (T land)) (by omega)
  have al : (ρ.set 3 (some (.str (T land)))).length = 27 := by rw [List.length_set]; exact hl
  generalize ρ.set 3 (some (.str (T land))) = ρ1 at e1 a2 a3 al
  obtain ⟨fig, st2, hf, hg, hd2, e2⟩ := l_s2 hs al a2 a3 hd1
  -- ρ2: 4
  have b2 := a2.set (i := 4) (x := some (.str (T fig))) (by omega)
  have b3 := a3.set (i := 4) (x := some (.str (T fig))) (by omega)
  have b4 := At.self (ρ := ρ1) (i := 4) (d := .str (T fig)) (by omega)
  have bl : (ρ1.set 4 (some (.str (T fig)))).length = 27 := by rw [List.length_set]; exact al
  generalize ρ1.set 4 (some (.str (T fig))) = ρ2 at e2 b2 b3 b4 bl
  have e3 := l_s3 (st := st2) hs hf hg bl b3 b4
  -- the number
  have hgn := num_good hs hf hg
  have hnum : numOf land fig = land ++ (two (chkOf land fig) ++ fig) := rfl
  have hch := chk_b land fig
  have htw := two_ok (k := chkOf land fig) (by omega)
  have htail : (two (chkOf land fig) ++ fig).length = n + 2 := by rw [List.length_append, htw.2.2]; omega
  have htd : (two (chkOf land fig) ++ fig).all isD = true := by rw [List.all_append, htw.1, hg]; rfl
  have hnl : (numOf land fig).length = n + 4 := by rw [hnum, List.length_append]; omega
  have hn2 : (numOf land fig).take 2 = land := by rw [hnum, ← hsz.1]; exact List.take_left
  -- ρ3: 5
  have c2 := b2.set (i := 5) (x := some (.str (T (numOf land fig)))) (by omega)
  have c3 := b3.set (i := 5) (x := some (.str (T (numOf land fig)))) (by omega)
  have c4 := b4.set (i := 5) (x := some (.str (T (numOf land fig)))) (by omega)
  have c5 := At.self (ρ := ρ2) (i := 5) (d := .str (T (numOf land fig))) (by omega)
  have cl : (ρ2.set 5 (some (.str (T (numOf land fig))))).length = 27 := by rw [List.length_set]; exact bl
  generalize ρ2.set 5 (some (.str (T (numOf land fig)))) = ρ3 at e3 c2 c3 c4 c5 cl
  have e4 := l_s4 (st := st2) hs hf hg cl c3 c4
  -- ρ4: 6
  have d2 := c2.set (i := 6) (x := some (.lst [.int ((chkOf land fig : Nat) : Int)])) (by omega)
  have d3 := c3.set (i := 6) (x := some (.lst [.int ((chkOf land fig : Nat) : Int)])) (by omega)
  have d4 := c4.set (i := 6) (x := some (.lst [.int ((chkOf land fig : Nat) : Int)])) (by omega)
  have d5 := c5.set (i := 6) (x := some (.lst [.int ((chkOf land fig : Nat) : Int)])) (by omega)
  have d6 := At.self (ρ := ρ3) (i := 6) (d := .lst [.int ((chkOf land fig : Nat) : Int)]) (by omega)
  have dl : (ρ3.set 6 (some (.lst [.int ((chkOf land fig : Nat) : Int)]))).length = 27 := by rw [List.length_set]; exact cl
  generalize ρ3.set 6 (some (.lst [.int ((chkOf land fig : Nat) : Int)])) = ρ4 at e4 d2 d3 d4 d5 d6 dl
  have e6 := l_s6 (st := st2) hs hf d3 d4 d5 d6
  have e8 := l_s8 (st := st2) (by omega) hgn d5
  obtain ⟨text, st3, hd3, t1, t2, t3, e9⟩ := l_s9 dl d2 hd2
  -- ρ5: 7
  have f2 := d2.set (i := 7) (x := some (.str (T text))) (by omega)
  have f3 := d3.set (i := 7) (x := some (.str (T text))) (by omega)
  have f5 := d5.set (i := 7) (x := some (.str (T text))) (by omega)
  have f7 := At.self (ρ := ρ4) (i := 7) (d := .str (T text)) (by omega)
  have fl : (ρ4.set 7 (some (.str (T text)))).length = 27 := by rw [List.length_set]; exact dl
  generalize ρ4.set 7 (some (.str (T text))) = ρ5 at e9 f2 f3 f5 f7 fl
  have e11 := l_s11 (st := st3) t1 t2 t3 f7
  obtain ⟨bd, st4, u1, u2, hd4, e12⟩ := l_s12 (n := n) hsz.1 htail (by omega) htd fl f2 f5 hd3
  have hbl : (land ++ bd).length = n + 4 := by rw [List.length_append]; omega
  have hb2 : (land ++ bd).take 2 = land := by rw [← hsz.1]; exact List.take_left
  -- ρ6: 8
  have g2 := f2.set (i := 8) (x := some (.str (T (land ++ bd)))) (by omega)
  have g3 := f3.set (i := 8) (x := some (.str (T (land ++ bd)))) (by omega)
  have g5 := f5.set (i := 8) (x := some (.str (T (land ++ bd)))) (by omega)
  have g8 := At.self (ρ := ρ5) (i := 8) (d := .str (T (land ++ bd))) (by omega)
  have gl : (ρ5.set 8 (some (.str (T (land ++ bd))))).length = 27 := by rw [List.length_set]; exact fl
  generalize ρ5.set 8 (some (.str (T (land ++ bd)))) = ρ6 at e12 g2 g3 g5 g8 gl
  have e14 := l_s14 (st := st4) hs hn2 hnl hbl g5 g8
  have e15 := l_s15 (st := st4) gl (by omega) g5
  -- ρ7: 9
  have h2' := g2.set (i := 9) (x := some (.lst ((groups (numOf land fig)).map fun g => D.str (T g)))) (by omega)
  have h3' := g3.set (i := 9) (x := some (.lst ((groups (numOf land fig)).map fun g => D.str (T g)))) (by omega)
  have h5' := g5.set (i := 9) (x := some (.lst ((groups (numOf land fig)).map fun g => D.str (T g)))) (by omega)
  have h8' := g8.set (i := 9) (x := some (.lst ((groups (numOf land fig)).map fun g => D.str (T g)))) (by omega)
  have h9' := At.self (ρ := ρ6) (i := 9) (d := .lst ((groups (numOf land fig)).map fun g => D.str (T g))) (by omega)
  have hl' : (ρ6.set 9 (some (.lst ((groups (numOf land fig)).map fun g => D.str (T g))))).length = 27 := by rw [List.length_set]; exact gl
  generalize ρ6.set 9 (some (.lst ((groups (numOf land fig)).map fun g => D.str (T g)))) = ρ7 at e15 h2' h3' h5' h8' h9' hl'
  have e16 := l_s16 (st := st4) hs hl' h3'
  -- ρ8: 10
  have i2 := h2'.set (i := 10) (x := some (.str (T (upL land)))) (by omega)
  have i3 := h3'.set (i := 10) (x := some (.str (T (upL land)))) (by omega)
  have i5 := h5'.set (i := 10) (x := some (.str (T (upL land)))) (by omega)
  have i8 := h8'.set (i := 10) (x := some (.str (T (upL land)))) (by omega)
  have i9 := h9'.set (i := 10) (x := some (.str (T (upL land)))) (by omega)
  have i10 := At.self (ρ := ρ7) (i := 10) (d := .str (T (upL land))) (by omega)
  have il : (ρ7.set 10 (some (.str (T (upL land))))).length = 27 := by rw [List.length_set]; exact hl'
  generalize ρ7.set 10 (some (.str (T (upL land)))) = ρ8 at e16 i2 i3 i5 i8 i9 i10 il
  have e18 := l_s18 (st := st4) hs htail htd u1 u2 hgn i5 i8 i9 i10
  have e19 := l_s19 (st := st4) il
  -- ρ9: 11
  have j2 := i2.set (i := 11) (x := some (.lst (([] : List (List Nat)).map fun o => D.str (T o)))) (by omega)
  have j3 := i3.set (i := 11) (x := some (.lst (([] : List (List Nat)).map fun o => D.str (T o)))) (by omega)
  have j5 := i5.set (i := 11) (x := some (.lst (([] : List (List Nat)).map fun o => D.str (T o)))) (by omega)
  have j8 := i8.set (i := 11) (x := some (.lst (([] : List (List Nat)).map fun o => D.str (T o)))) (by omega)
  have j11 := At.self (ρ := ρ8) (i := 11) (d := .lst (([] : List (List Nat)).map fun o => D.str (T o))) (by omega)
  have jl : (ρ8.set 11 (some (.lst (([] : List (List Nat)).map fun o => D.str (T o))))).length = 27 := by rw [List.length_set]; exact il
  generalize ρ8.set 11 (some (.lst (([] : List (List Nat)).map fun o => D.str (T o)))) = ρ9 at e19 j2 j3 j5 j8 j11 jl
  obtain ⟨ρA, e21, kl, k11, kk⟩ := l_s21 (st := st4) jl (by omega : (land ++ bd).length ≤ 200) (by omega) j8 j11
  have k2 : At ρA 2 (.ref 0) := (kk 2 (by omega) (by omega)).trans j2
  have k3 : At ρA 3 (.str (T land)) := (kk 3 (by omega) (by omega)).trans j3
  have k5 : At ρA 5 (.str (T (numOf land fig))) := (kk 5 (by omega) (by omega)).trans j5
  have k8 : At ρA 8 (.str (T (land ++ bd))) := (kk 8 (by omega) (by omega)).trans j8
  have e22 := l_s22 (st := st4) kl (by omega : (land ++ bd).length ≤ 200) k8 k11
  -- ρB: 13
  have m2 := k2.set (i := 13) (x := some (.lst ((slipsS (land ++ bd)).map D.str))) (by omega)
  have m3 := k3.set (i := 13) (x := some (.lst ((slipsS (land ++ bd)).map D.str))) (by omega)
  have m5 := k5.set (i := 13) (x := some (.lst ((slipsS (land ++ bd)).map D.str))) (by omega)
  have m8 := k8.set (i := 13) (x := some (.lst ((slipsS (land ++ bd)).map D.str))) (by omega)
  have m13 := At.self (ρ := ρA) (i := 13) (d := .lst ((slipsS (land ++ bd)).map D.str)) (by omega)
  have ml : (ρA.set 13 (some (.lst ((slipsS (land ++ bd)).map D.str)))).length = 27 := by rw [List.length_set]; exact kl
  generalize ρA.set 13 (some (.lst ((slipsS (land ++ bd)).map D.str))) = ρB at e22 m2 m3 m5 m8 m13 ml
  have e24 := l_s24 (n := n) hd4 (by rw [hn2]; exact hs) (by rw [hb2]; exact hs) hnl hbl hgn ml m5 m8 m13
  obtain ⟨ps, st5, hd5, p1, p2, e25⟩ := l_s25 ml (by omega : 3 ≤ (numOf land fig).length) (by omega) m2 m5 hd4
  -- ρC: 14
  have o2 := m2.set (i := 14) (x := some (.lst (ps.map D.int))) (by omega)
  have o3 := m3.set (i := 14) (x := some (.lst (ps.map D.int))) (by omega)
  have o5 := m5.set (i := 14) (x := some (.lst (ps.map D.int))) (by omega)
  have o14 := At.self (ρ := ρB) (i := 14) (d := .lst (ps.map D.int)) (by omega)
  have ol : (ρB.set 14 (some (.lst (ps.map D.int)))).length = 27 := by rw [List.length_set]; exact ml
  generalize ρB.set 14 (some (.lst (ps.map D.int))) = ρC at e25 o2 o3 o5 o14 ol
  have e26 := l_s26 (st := st5) ol (by omega) o5 o14
  -- ρD: 15
  have q2 := o2.set (i := 15) (x := some (.str (T (hole ps (numOf land fig))))) (by omega)
  have q3 := o3.set (i := 15) (x := some (.str (T (hole ps (numOf land fig))))) (by omega)
  have q5 := o5.set (i := 15) (x := some (.str (T (hole ps (numOf land fig))))) (by omega)
  have q15 := At.self (ρ := ρC) (i := 15) (d := .str (T (hole ps (numOf land fig)))) (by omega)
  have ql : (ρC.set 15 (some (.str (T (hole ps (numOf land fig)))))).length = 27 := by rw [List.length_set]; exact ol
  generalize ρC.set 15 (some (.str (T (hole ps (numOf land fig))))) = ρD at e26 q2 q3 q5 q15 ql
  have e27 := l_s27 (st := st5) ql
  -- ρE: 16
  have r2 := q2.set (i := 16) (x := some (.lst (([[]] : List (List Nat)).map fun o => D.str (T o)))) (by omega)
  have r3 := q3.set (i := 16) (x := some (.lst (([[]] : List (List Nat)).map fun o => D.str (T o)))) (by omega)
  have r5 := q5.set (i := 16) (x := some (.lst (([[]] : List (List Nat)).map fun o => D.str (T o)))) (by omega)
  have r15 := q15.set (i := 16) (x := some (.lst (([[]] : List (List Nat)).map fun o => D.str (T o)))) (by omega)
  have r16 := At.self (ρ := ρD) (i := 16) (d := .lst (([[]] : List (List Nat)).map fun o => D.str (T o))) (by omega)
  have rl : (ρD.set 16 (some (.lst (([[]] : List (List Nat)).map fun o => D.str (T o))))).length = 27 := by rw [List.length_set]; exact ql
  generalize ρD.set 16 (some (.lst (([[]] : List (List Nat)).map fun o => D.str (T o)))) = ρE at e27 r2 r3 r5 r15 r16 rl
  -- facts of what is left open
  have hdig : ∀ c ∈ numOf land fig, c ≠ 63 := fun c hc => by
    rw [hnum] at hc
    rcases List.mem_append.mp hc with h | h
    · rcases size_cases hs with ⟨rfl, _⟩ | ⟨rfl, _⟩ | ⟨rfl, _⟩ | ⟨rfl, _⟩ | ⟨rfl, _⟩ <;> (simp at h; omega)
    · have := isD_iff.mp (List.all_eq_true.mp htd c h)
      omega
  have hcnt := hole_count hdig p1
  have hhl : (hole ps (numOf land fig)).length = n + 4 := by rw [hole_len]; exact hnl
  have hh2 : sizeL ((hole ps (numOf land fig)).take 2) = some n := by rw [hole_two p2, hn2]; exact hs
  have hmem : numOf land fig ∈ rowsOf (hole ps (numOf land fig)) := by
    have := rows_mem (hole ps (numOf land fig)) (numOf land fig) [[]] [] (by rw [hole_len]) (fun i w1 w2 => hole_mem w1 w2 ⟨hdig _ (List.getElem_mem w1), by
      by_cases hi : i < 2
      · right
        intro z
        have := p2 _ z
        omega
      · left
        have e : (numOf land fig)[i] = (two (chkOf land fig) ++ fig)[i - 2]'(by omega) := by
          have e0 : (numOf land fig)[i]? = (two (chkOf land fig) ++ fig)[i - 2]? := by
            rw [hnum, List.getElem?_append_right (by omega), hsz.1]
          rw [List.getElem?_eq_getElem w1, List.getElem?_eq_getElem (by omega)] at e0
          exact Option.some.inj e0
        rw [e]
        exact List.all_eq_true.mp htd _ (List.getElem_mem _)⟩) (List.mem_singleton.mpr rfl)
    rw [List.nil_append] at this
    exact this
  obtain ⟨ρF, e30, sl, s16, sk⟩ := l_s30 (st := st5) rl (by omega) hcnt r15 r16
  have s2 : At ρF 2 (.ref 0) := (sk 2 (by omega) (by omega) (by omega) (by omega)).trans r2
  have s3 : At ρF 3 (.str (T land)) := (sk 3 (by omega) (by omega) (by omega) (by omega)).trans r3
  have s5 : At ρF 5 (.str (T (numOf land fig))) := (sk 5 (by omega) (by omega) (by omega) (by omega)).trans r5
  have s15 : At ρF 15 (.str (T (hole ps (numOf land fig)))) := (sk 15 (by omega) (by omega) (by omega) (by omega)).trans r15
  have e32 := l_s32 (st := st5) sl hh2 hhl hcnt hmem hgn s5 s15 s16
  obtain ⟨bank, count, st6, v1, v2, v3, hd6, e33⟩ := l_s33 sl s2 hd5
  -- ρG: 22, 23
  have w3 := (s3.set (i := 22) (x := some (.str (T bank))) (by omega)).set (i := 23) (x := some (.int ((count : Nat) : Int))) (by omega)
  have w22 := (At.self (ρ := ρF) (i := 22) (d := .str (T bank)) (by omega)).set (i := 23) (x := some (.int ((count : Nat) : Int))) (by omega)
  have w23 := At.self (ρ := ρF.set 22 (some (.str (T bank)))) (i := 23) (d := .int ((count : Nat) : Int)) (by rw [List.length_set]; omega)
  have wl : ((ρF.set 22 (some (.str (T bank)))).set 23 (some (.int ((count : Nat) : Int)))).length = 27 := by rw [List.length_set, List.length_set]; exact sl
  generalize (ρF.set 22 (some (.str (T bank)))).set 23 (some (.int ((count : Nat) : Int))) = ρG at e33 w3 w22 w23 wl
  have e34 := l_s34 (st := st6) hs v1 v3 wl w3 w22 w23
  have x3 := w3.set (i := 18) (x := some (.int (zerosI n bank count))) (by omega)
  have x22 := w22.set (i := 18) (x := some (.int (zerosI n bank count))) (by omega)
  have x23 := w23.set (i := 18) (x := some (.int (zerosI n bank count))) (by omega)
  have x18 := At.self (ρ := ρG) (i := 18) (d := .int (zerosI n bank count)) (by omega)
  have xl : (ρG.set 18 (some (.int (zerosI n bank count)))).length = 27 := by rw [List.length_set]; exact wl
  generalize ρG.set 18 (some (.int (zerosI n bank count))) = ρH at e34 x3 x22 x23 x18 xl
  have e35 := l_s35 (st := st6) hs v1 v2 v3 xl x3 x22 x23
  have y22 := x22.set (i := 19) (x := some (.str (T (toldL land n bank count)))) (by omega)
  have y23 := x23.set (i := 19) (x := some (.str (T (toldL land n bank count)))) (by omega)
  have y18 := x18.set (i := 19) (x := some (.str (T (toldL land n bank count)))) (by omega)
  have y19 := At.self (ρ := ρH) (i := 19) (d := .str (T (toldL land n bank count))) (by omega)
  generalize ρH.set 19 (some (.str (T (toldL land n bank count)))) = ρI at e35 y22 y23 y18 y19
  have e37 := l_s37 (st := st6) hs y18 y19
  have e39 := l_s39 (st := st6) hs v1 v2 v3 y18 y19 y22 y23
  refine ⟨ρI, st6, hd6, ?_⟩
  unfold M_law_f0
  rw [seq_nx e1, seq_nx e2, seq_nx e3, seq_nx e4, seq_nx e6, seq_nx e8, seq_nx e9, seq_nx e11, seq_nx e12, seq_nx e14, seq_nx e15, seq_nx e16, seq_nx e18, seq_nx e19, seq_nx e21, seq_nx e22, seq_nx e24, seq_nx e25, seq_nx e26, seq_nx e27, seq_nx e30, seq_nx e32, seq_nx e33, seq_nx e34, seq_nx e35, seq_nx e37, seq_nx e39, sNx_e]
end
end K03

namespace K03
open L2 PyProof.Rows PySem.Spec PySem Bk
section
variable {ρ : Lc} {st : Store}
/-! what cannot be -/
theorem f_slips_no {l : List Nat} (hb : l.length ≤ 200) (h : ∀ n, sizeL (l.take 2) = some n → l.length ≠ n + 4) : F_slips_of [.str (T l)] st = .exn 1 st := by
  have b : l.length ≤ big := by unfold big; omega
  have bl : bLen [.str (T l)] st = .ok (.int l.length) st := bLen_T b
  have q1 : dSlice false (.str (T l)) none (some 2) st = .ok (.str (T (l.take 2))) st := dSl_to (i := 2) (by omega) b
  have lk := ni_lands (st := st) (l.take 2)
  have hr : M_slips_of ([.str (T l)].map some ++ List.replicate (S_slips_of.N.length - 1) none) st = .exn 1 st := by
    show M_slips_of [some (.str (T l)), none, none, none, none] st = _
    unfold M_slips_of
    cases hs : sizeL (l.take 2) with
    | none =>
      rw [hs] at lk
      simp only [sSeq_e, sIfS_e, tOr_e, tVal_e, sBin_e, sSlice_e, sVar_0, R.bind_ok, pNone_e, pSome_e, sVal_e, rPt_int, q1, lk, Option.isSome_none, Bool.not_false, rTr_bl, rOr_t, rSt_t, M_slips_of_t0, sRaise_e, then_exn]
    | some n =>
      rw [hs] at lk
      have ix := ix_lands (st := st) hs
      have eq : ((l.length : Int) == ((n : Int) + 4)) = false := by
        have := h n hs
        rw [beq_eq_false_iff_ne]; omega
      simp only [sSeq_e, sIfS_e, tOr_e, tVal_e, sBin_e, sSlice_e, sVar_0, R.bind_ok, pNone_e, pSome_e, sVal_e, rPt_int, q1, lk, Option.isSome_some, Bool.not_true, rTr_bl, rOr_f, sCall_e, sCons_e, sNil_e, bl, ix, dAdd_int, cmp_neI, eq, Bool.not_false, rSt_t, M_slips_of_t0, sRaise_e, then_exn]
  have e := semF_eq (esc := false) (np := 1) den_slips_of rfl hr
  unfold F_slips_of
  rw [e]
  simp
theorem f_missing_no {l : List Nat} (hb : l.length ≤ 200) (h : ∀ n, sizeL (l.take 2) = some n → l.length ≠ n + 4) : F_missing [.str (T l)] st = .exn 1 st := by
  have b : l.length ≤ big := by unfold big; omega
  have bl : bLen [.str (T l)] st = .ok (.int l.length) st := bLen_T b
  have q1 : dSlice false (.str (T l)) none (some 2) st = .ok (.str (T (l.take 2))) st := dSl_to (i := 2) (by omega) b
  have lk := ni_lands (st := st) (l.take 2)
  have hr : M_missing ([.str (T l)].map some ++ List.replicate (S_missing.N.length - 1) none) st = .exn 1 st := by
    show M_missing [some (.str (T l)), none, none, none, none] st = _
    unfold M_missing
    cases hs : sizeL (l.take 2) with
    | none =>
      rw [hs] at lk
      simp only [sSeq_e, sIfS_e, tOr_e, tVal_e, sBin_e, sSlice_e, sVar_0, R.bind_ok, pNone_e, pSome_e, sVal_e, rPt_int, q1, lk, Option.isSome_none, Bool.not_false, rTr_bl, rOr_t, rSt_t, M_missing_t0, sRaise_e, then_exn]
    | some n =>
      rw [hs] at lk
      have ix := ix_lands (st := st) hs
      have eq : ((l.length : Int) == ((n : Int) + 4)) = false := by
        have := h n hs
        rw [beq_eq_false_iff_ne]; omega
      simp only [sSeq_e, sIfS_e, tOr_e, tVal_e, sBin_e, sSlice_e, sVar_0, R.bind_ok, pNone_e, pSome_e, sVal_e, rPt_int, q1, lk, Option.isSome_some, Bool.not_true, rTr_bl, rOr_f, sCall_e, sCons_e, sNil_e, bl, ix, dAdd_int, cmp_neI, eq, Bool.not_false, rOr_t, rSt_t, M_missing_t0, sRaise_e, then_exn]
  have e := semF_eq (esc := false) (np := 1) den_missing rfl hr
  unfold F_missing
  rw [e]
  simp
theorem f_serial_no {land bank : List Nat} {c : Int} {x : List Nat} (hx : bStr [.int c] st = .ok (.str (T x)) st) (h : sizeL land = none ∨ c < 0) : F_serial [.str (T land), .str (T bank), .int c] st = .exn 1 st := by
  have lk := ni_lands (st := st) land
  have hr : M_serial ([.str (T land), .str (T bank), .int c].map some ++ List.replicate (S_serial.N.length - 3) none) st = .exn 1 st := by
    show M_serial [some (.str (T land)), some (.str (T bank)), some (.int c), none] st = _
    unfold M_serial
    have e0 : (sAsg (sCall bStr (sCons (sVar 2) sNil)) (gName' 3)) [some (.str (T land)), some (.str (T bank)), some (.int c), none] st = .nx [some (.str (T land)), some (.str (T bank)), some (.int c), some (.str (T x))] st := by
      simp only [sAsg_e, sCall_e, sCons_e, sVar_0, sVar_s, R.bind_ok, sNil_e, hx, sE2_ok]
      rw [gAsg_name (by simp)]
      rfl
    rw [seq_nx e0]
    cases hs : sizeL land with
    | none =>
      rw [hs] at lk
      simp only [sSeq_e, sIfS_e, tOr_e, tVal_e, sBin_e, sVar_0, R.bind_ok, sVal_e, lk, Option.isSome_none, Bool.not_false, rTr_bl, rOr_t, rSt_t, M_serial_t0, sRaise_e, then_exn]
    | some n =>
      rw [hs] at lk
      have hc : c < 0 := by
        rcases h with h | h
        · rw [hs] at h; cases h
        · exact h
      simp only [sSeq_e, sIfS_e, tOr_e, tVal_e, sBin_e, sVar_0, sVar_s, R.bind_ok, sVal_e, lk, Option.isSome_some, Bool.not_true, rTr_bl, rOr_f, cmp_lt, hc, decide_true, rOr_t, rSt_t, M_serial_t0, sRaise_e, then_exn]
  have e := semF_eq (esc := false) (np := 3) den_serial rfl hr
  unfold F_serial
  rw [e]
  simp
/-! the plain part -/
abbrev num0 : List Nat := [110, 111, 51, 52, 52, 55, 49, 49, 48, 48, 48, 48, 48, 48, 49]
theorem num0_eq : numOf [110, 111] [52, 55, 49, 49, 48, 48, 48, 48, 48, 48, 49] = num0 := by decide +kernel
theorem num0_good : good num0 = true := by decide +kernel
theorem told_k {own : List Nat} {txt : Str} {caught : Nat → Bool} {run : Scope → Expr → SE} {f : SE} {lsc : Scope} {body : Expr} {F : SE} {c : Nat} (hf : f ρ st = .ok (.clo lsc body) st) (hr : run lsc body = F) (hF : F (wipeD ρ own) st = .exn c st) (hc : caught c = true) :
    sToldB own txt caught run f ρ st = .ok (.str txt) st := by
  unfold sToldB
  rw [hf, R.bind_ok]
  show told txt caught (run lsc body (wipeD ρ own) st) = _
  rw [hr, hF, told_exn hc]
abbrev runP : Scope → Expr → SE := fun lsc body => denE S_law_plain 54 ((Scp.mk (defScope st_law_plain) (fun _ => true) 4 false true).lamS lsc) body
/-- a lambda that ends in the error -/
def Bad (d : D) : Prop := ∀ (b : Option D) (st : Store), sToldB [2] (T eT) S_law_plain.caught runP (sVar 2) [some (.str (T num0)), b, some d] st = .ok (.str (T eT)) st
theorem bad_of {lsc : Scope} {body : Expr} {F : SE} (hr : runP lsc body = F) (hF : ∀ b st, F [some (.str (T num0)), b, none] st = .exn 1 st) : Bad (.clo lsc body) := fun b st =>
  told_k (ρ := [some (.str (T num0)), b, some (.clo lsc body)]) (F := F) (c := 1) (by simp only [sVar_0, sVar_s]) hr (hF b st) rfl
theorem call1 {F : Fn} {x : Str} {c : Nat} (h : ∀ st, F [.str x] st = .exn c st) : ∀ (b : Option D) (st : Store), sCall F (sCons (sVal (.str x)) sNil) [some (.str (T num0)), b, none] st = .exn c st := fun b st => by
  simp only [sCall_e, sCons_e, sVal_e, R.bind_ok, sNil_e, h]
theorem call2 {F : Fn} {x y : Str} {c : Nat} (h : ∀ st, F [.str x, .str y] st = .exn c st) : ∀ (b : Option D) (st : Store), sCall F (sCons (sVal (.str x)) (sCons (sVal (.str y)) sNil)) [some (.str (T num0)), b, none] st = .exn c st := fun b st => by
  simp only [sCall_e, sCons_e, sVal_e, R.bind_ok, sNil_e, h]
theorem call3 {F : Fn} {x y : Str} {i : Int} {c : Nat} (h : ∀ st, F [.str x, .str y, .int i] st = .exn c st) : ∀ (b : Option D) (st : Store), sCall F (sCons (sVal (.str x)) (sCons (sVal (.str y)) (sCons (sVal (.int i)) sNil))) [some (.str (T num0)), b, none] st = .exn c st := fun b st => by
  simp only [sCall_e, sCons_e, sVal_e, R.bind_ok, sNil_e, h]
theorem rest_no {l : List Nat} (h : l = [] ∨ restF 0 l = none) : F_rest [.str (T l)] st = .exn 1 st := by
  rw [f_rest]
  unfold restR
  by_cases h0 : l = []
  · rw [if_pos h0]
  · rw [if_neg h0, h.resolve_left h0]
theorem wc_no {land fig : List Nat} (h1 : land.length ≤ 100) (h2 : fig.length ≤ 300) (h : ∀ n, sizeL land = some n → ¬ (fig.length = n ∧ fig.all isD = true)) : F_with_check [.str (T land), .str (T fig)] st = .exn 1 st := by
  rw [f_with_check h1 h2]
  cases hs : sizeL land with
  | none => rfl
  | some n =>
    simp only
    rw [if_neg (h n hs)]
theorem bads : ∀ d ∈ [D.clo lamsc_0 lambd_0, .clo lamsc_1 lambd_1, .clo lamsc_2 lambd_2, .clo lamsc_3 lambd_3, .clo lamsc_4 lambd_4, .clo lamsc_5 lambd_5, .clo lamsc_6 lambd_6, .clo lamsc_7 lambd_7, .clo lamsc_8 lambd_8, .clo lamsc_9 lambd_9, .clo lamsc_10 lambd_10, .clo lamsc_11 lambd_11, .clo lamsc_12 lambd_12, .clo lamsc_13 lambd_13, .clo lamsc_14 lambd_14, .clo lamsc_15 lambd_15, .clo lamsc_16 lambd_16, .clo lamsc_17 lambd_17, .clo lamsc_18 lambd_18], Bad d := by
  have s1 : ∀ st : Store, bStr [.int 1] st = .ok (.str (T [49])) st := fun st => rfl
  have hno : sizeL [110, 111] = some 11 := rfl
  have hxx : sizeL [120, 120] = none := rfl
  simp only [List.forall_mem_cons, List.not_mem_nil, false_implies, implies_true, and_true]
  refine ⟨?_, ?_, ?_, ?_, ?_, ?_, ?_, ?_, ?_, ?_, ?_, ?_, ?_, ?_, ?_, ?_, ?_, ?_, ?_⟩
  · exact bad_of run_0 (call1 fun st => rest_no (.inl rfl))
  · exact bad_of run_1 (call1 fun st => rest_no (.inr (by decide)))
  · exact bad_of run_2 (call1 fun st => rest_no (.inr (by decide)))
  · exact bad_of run_3 (call2 fun st => wc_no (by decide) (by decide) fun n h => by rw [hxx] at h; cases h)
  · exact bad_of run_4 (call2 fun st => wc_no (by decide) (by decide) fun n h => by rw [hno] at h; cases h; decide)
  · exact bad_of run_5 (call2 fun st => wc_no (by decide) (by decide) fun n h => by rw [hno] at h; cases h; decide)
  · exact bad_of run_6 (call1 fun st => by rw [f_parted (by decide), if_neg (by decide +kernel)])
  · exact bad_of run_7 (call1 fun st => by rw [f_parted (by decide), if_neg (by decide +kernel)])
  · exact bad_of run_8 (call1 fun st => by rw [f_read (by decide), if_neg (by decide +kernel)])
  · refine bad_of run_9 fun b st => ?_
    have a : dAdd (.str (T num0)) (.str (T [49])) st = .ok (.str (T (num0 ++ [49]))) st := dAdd_T (by show 16 ≤ big; decide)
    have r : F_read [.str (T (num0 ++ [49]))] st = .exn 1 st := by rw [f_read (by decide), if_neg (by decide +kernel)]
    simp only [sCall_e, sCons_e, sBin_e, sVar_0, R.bind_ok, sVal_e, a, sNil_e, r]
  · exact bad_of run_10 (call1 fun st => f_slips_no (by decide) fun n h => by
      have : sizeL ([120, 120].take 2) = none := rfl
      rw [this] at h; cases h)
  · exact bad_of run_11 (call1 fun st => f_slips_no (by decide) fun n h => by
      have : sizeL (([110, 111, 49] : List Nat).take 2) = some 11 := rfl
      rw [this] at h; cases h; decide)
  · exact bad_of run_12 (call1 fun st => f_missing_no (by decide) fun n h => by
      have : sizeL (([110, 111, 63, 63, 63, 63, 48, 48, 48, 48, 48, 48, 49] : List Nat).take 2) = some 11 := rfl
      rw [this] at h; cases h; decide)
  · exact bad_of run_13 (call1 fun st => f_missing_no (by decide) fun n h => by
      have : sizeL (([63, 111, 51, 52, 52, 55, 49, 49, 48, 48, 48, 48, 48, 48, 49] : List Nat).take 2) = none := rfl
      rw [this] at h; cases h)
  · exact bad_of run_14 (call1 fun st => f_missing_no (by decide) fun n h => by
      have : sizeL (([110, 111] : List Nat).take 2) = some 11 := rfl
      rw [this] at h; cases h; decide)
  · exact bad_of run_15 (call3 fun st => f_serial_no (s1 st) (.inl hxx))
  · refine bad_of run_16 fun b st => ?_
    have n1 : dNeg (.int 1) st = .ok (.int (-1)) st := rfl
    have h := f_serial_no (st := st) (land := [110, 111]) (bank := [49]) (c := -1) (x := [45, 49]) rfl (.inr (by decide))
    simp only [sCall_e, sCons_e, sUn_e, R.bind_ok, sVal_e, n1, sNil_e, h]
  · refine bad_of run_17 (call3 fun st => ?_)
    have h := f_serial (st := st) (land := [110, 111]) (bank := [49, 50, 51, 52, 53, 54, 55, 56, 57, 48, 49, 50]) (n := 11) (count := 1) hno (by decide) (by decide)
    rw [if_neg (by decide)] at h
    exact h
  · refine bad_of run_18 (call3 fun st => ?_)
    have h := f_serial (st := st) (land := [110, 111]) (bank := [120]) (n := 11) (count := 1) hno (by decide) (by decide)
    rw [if_pos (by decide)] at h
    exact h.trans (wc_no (by decide) (by decide) fun n h => by rw [hno] at h; cases h; decide)
end
end K03

namespace K03
open L2 PyProof.Rows PySem.Spec PySem Bk
section
variable {ρ : Lc} {st : Store}
abbrev BL : List D := [D.clo lamsc_0 lambd_0, .clo lamsc_1 lambd_1, .clo lamsc_2 lambd_2, .clo lamsc_3 lambd_3, .clo lamsc_4 lambd_4, .clo lamsc_5 lambd_5, .clo lamsc_6 lambd_6, .clo lamsc_7 lambd_7, .clo lamsc_8 lambd_8, .clo lamsc_9 lambd_9, .clo lamsc_10 lambd_10, .clo lamsc_11 lambd_11, .clo lamsc_12 lambd_12, .clo lamsc_13 lambd_13, .clo lamsc_14 lambd_14, .clo lamsc_15 lambd_15, .clo lamsc_16 lambd_16, .clo lamsc_17 lambd_17, .clo lamsc_18 lambd_18]
theorem p_s0 : M_law_plain_s0 [none, none, none] st = .nx [some (.str (T num0)), none, none] st := by
  have e := f_with_check (st := st) (land := [110, 111]) (fig := [52, 55, 49, 49, 48, 48, 48, 48, 48, 48, 49]) (by decide) (by decide)
  have hs : sizeL [110, 111] = some 11 := rfl
  rw [hs] at e
  simp only at e
  rw [if_pos (by decide), num0_eq] at e
  unfold M_law_plain_s0
  exact asg (by simp only [sCall_e, sCons_e, sVal_e, R.bind_ok, sNil_e, e]) (by decide)
theorem p_s1 : M_law_plain_s1 [some (.str (T num0)), none, none] st = .nx [some (.str (T num0)), some (.lst BL), none] st := by
  unfold M_law_plain_s1
  refine asg (d := .lst BL) ?_ (by show 1 < 3; decide)
  simp only [sLstE_e, sCons_e, sVal_e, R.bind_ok, sNil_e]
  exact mkL_f (by show 19 ≤ big; decide)
theorem p_s3 : M_law_plain_s3 [some (.str (T num0)), some (.lst BL), none] st = .nx [some (.str (T num0)), some (.lst BL), none] st := by
  have ec := comp_wkL (m := false) (own := [2]) (it := iVal (sVar 1)) (ρ := [some (.str (T num0)), some (.lst BL), none]) (st := st) (ds := BL.map fun d => d) (by simp only [iVal_e, sVar_0, sVar_s, R.bind_ok, dIter_lst, List.map_id']) (compL_map (gt := gName' 2) (st := st) (test := tVal (sBin (cmpF pc_kc .NotEq) (sToldB [2] (T [78, 117, 109, 98, 101, 114, 69, 114, 114, 111, 114]) S_law_plain.caught (fun lsc body => denE S_law_plain 54 ((Scp.mk (defScope st_law_plain) (fun _ => true) 4 false true).lamS lsc) body) (sVar 2)) (sVal (.str (T [78, 117, 109, 98, 101, 114, 69, 114, 114, 111, 114]))))) (elt := sVal (.int 1)) (ρ0 := wipeD [some (.str (T num0)), some (.lst BL), none] [2]) (fun d => d) (fun _ => false) (fun _ => D.int 1) BL fun d hd => ⟨[some (.str (T num0)), some (.lst BL), some d], rfl, by
    have e := bads d hd (some (.lst BL)) st
    have q : (T eT == T [78, 117, 109, 98, 101, 114, 69, 114, 114, 111, 114]) = true := beq_self_eq_true _
    rw [tVal_e, sBin_e, e]
    simp only [R.bind_ok, sVal_e, cmp_neS, q, Bool.not_true, rTr_bl], fun z => by cases z⟩)
  rw [List.filter_eq_nil_iff.mpr (fun _ _ => Bool.false_ne_true), mkB_f (by show 0 ≤ big; decide)] at ec
  unfold M_law_plain_s3
  rw [sIfS_e, tVal_e, sBin_e, ec]
  simp only [R.bind_ok, sLstE_e, sNil_e, mkL_f (st := st) (ds := []) (by decide), cmp_neL0, List.map_nil, List.isEmpty_nil, Bool.not_true, rTr_bl, rSt_f, sNx_e]
theorem KV_hits : hitsN st KV KV = some true := by
  have h := fun l => KV_look l
  rw [KV_merge] at h
  have h1 : look KV (.inr (T [97, 116])) = some (.int 16) := h [97, 116]
  have h2 : look KV (.inr (T [98, 101])) = some (.int 12) := h [98, 101]
  have h3 : look KV (.inr (T [99, 104])) = some (.int 17) := h [99, 104]
  have h4 : look KV (.inr (T [102, 105])) = some (.int 14) := h [102, 105]
  have h5 : look KV (.inr (T [110, 111])) = some (.int 11) := h [110, 111]
  have e : ∀ i : Int, eqN st 58 (.int i) (.int i) = some true := fun i => by
    have : eqN st 58 (.int i) (.int i) = some (i == i) := rfl
    rw [this, beq_self_eq_true]
  have st1 : ∀ (k : Key) (v y : D) (r : List (Key × D)), look KV k = some y → hitsN st KV ((k, v) :: r) = (eqN st 58 v y).bind fun e => (hitsN st KV r).map fun c => e && c := fun k v y r h => by
    rw [hitsN, h]
  have e0 : hitsN st KV [] = some true := rfl
  rw [st1 _ _ _ _ h1, st1 _ _ _ _ h2, st1 _ _ _ _ h3, st1 _ _ _ _ h4, st1 _ _ _ _ h5, e, e, e, e, e, e0]
  rfl
theorem p_s5 : M_law_plain_s5 ρ st = .nx ρ st := by
  have e1 : bDictX pc_kc [.kd 0] st = .ok (.dK KV) st := rfl
  have e2 : cmpF pc_kc .NotEq (.dK KV) (.dK (mergeD [] KV)) st = .ok (.bl false) st := by
    rw [KV_merge]
    have e : cmpF pc_kc .NotEq = dNe := rfl
    rw [e]
    unfold dNe
    have e : dEqv st (.dK KV) (.dK KV) = hitsN st KV KV := rfl
    rw [e, KV_hits]
    rfl
  unfold M_law_plain_s5
  simp only [sIfS_e, tOr_e, tVal_e, sBin_e, sCall_e, sCons_e, sVal_e, R.bind_ok, sNil_e, e1, sDictC_e, e2, rTr_bl, rOr_f, cmp_neI, beq_self_eq_true, Bool.not_true, rSt_f, sNx_e]
theorem p_s7 {b c : Option D} : M_law_plain_s7 [some (.str (T num0)), b, c] st = .nx [some (.str (T num0)), b, c] st := by
  have q : (T num0 == T [110, 111, 51, 52, 52, 55, 49, 49, 48, 48, 48, 48, 48, 48, 49]) = true := beq_self_eq_true _
  unfold M_law_plain_s7
  simp only [sIfS_e, tVal_e, sBin_e, sVar_0, sVal_e, R.bind_ok, cmp_neS, q, Bool.not_true, rTr_bl, rSt_f, sNx_e]
theorem p_s9 {b c : Option D} : M_law_plain_s9 [some (.str (T num0)), b, c] st = .nx [some (.str (T num0)), b, c] st := by
  have p1 : F_parted [.str (T num0)] st = .ok (.str (T [110, 111, 51, 52, 32, 52, 55, 49, 49, 32, 48, 48, 48, 48, 32, 48, 48, 49])) st := by
    rw [f_parted (by decide), if_pos num0_good]
    rfl
  have r1 : F_read [.str (T [78, 79, 51, 52, 32, 52, 55, 49, 49, 32, 48, 48, 48, 48, 32, 48, 48, 49])] st = .ok (.str (T num0)) st := by
    have e : readL [78, 79, 51, 52, 32, 52, 55, 49, 49, 32, 48, 48, 48, 48, 32, 48, 48, 49] = num0 := by decide
    rw [f_read (by decide), e, if_pos num0_good]
  have eqs : ∀ x : Str, (x == x) = true := fun x => beq_self_eq_true x
  unfold M_law_plain_s9
  simp only [sIfS_e, tNot_e, tAnd_e, tVal_e, sBin_e, sCall_e, sCons_e, sVar_0, sVal_e, R.bind_ok, sNil_e, p1, cmp_eqS, eqs, rTr_bl, rAnd_t, r1, Bool.not_true, rSt_f, sNx_e]
theorem no_near : ((near num0).filter fun o => decide (o ≠ num0) && good o) = [] := by decide +kernel
theorem slips0 : slipsS num0 = [] := by
  have h := addU_filter (fun o => decide (o ≠ num0) && good o) (near num0) []
  rw [no_near] at h
  unfold slipsS
  rw [h]
  rfl
abbrev hole0 : List Nat := [110, 111, 51, 52, 52, 63, 49, 49, 48, 48, 48, 48, 48, 48, 49]
theorem rows0 : (rowsOf hole0).filter good = [num0] := by decide +kernel
theorem miss0 : missS hole0 = [T num0] := by
  unfold missS
  rw [rows0]
  rfl
theorem p_s10 {b c : Option D} (hok : okSt st.length st = true) : M_law_plain_s10 [some (.str (T num0)), b, c] st = .rt (.bl true) st := by
  have f1 : F_slips_of [.str (T num0)] st = .ok (.tup []) st := by
    have := f_slips (l := num0) (n := 11) hok rfl rfl
    rw [slips0] at this
    exact this
  have f2 : F_missing [.str (T hole0)] st = .ok (.tup [.str (T num0)]) st := by
    have := f_missing (st := st) (l := hole0) (n := 11) rfl rfl (by decide)
    rw [miss0] at this
    exact this
  have f3 : F_serial [.str (T [99, 104]), .str (T [57]), .int 12] st = .ok (.str (T [99, 104, 54, 57, 57, 48, 48, 48, 48, 48, 48, 48, 48, 48, 48, 48, 48, 48, 48, 49, 50])) st := by
    have hs : sizeL [99, 104] = some 17 := rfl
    have h := f_serial (st := st) (land := [99, 104]) (bank := [57]) (n := 17) (count := 12) hs (by decide) (by decide)
    rw [if_pos (by decide +kernel)] at h
    have e : serL 17 [57] 12 = [57, 48, 48, 48, 48, 48, 48, 48, 48, 48, 48, 48, 48, 48, 48, 49, 50] := by decide +kernel
    rw [e] at h
    have hw := f_with_check (st := st) (land := [99, 104]) (fig := [57, 48, 48, 48, 48, 48, 48, 48, 48, 48, 48, 48, 48, 48, 48, 49, 50]) (by decide) (by decide)
    rw [hs] at hw
    simp only at hw
    rw [if_pos (by decide)] at hw
    have en : numOf [99, 104] [57, 48, 48, 48, 48, 48, 48, 48, 48, 48, 48, 48, 48, 48, 48, 49, 50] = [99, 104, 54, 57, 57, 48, 48, 48, 48, 48, 48, 48, 48, 48, 48, 48, 48, 48, 48, 49, 50] := by decide +kernel
    rw [en] at hw
    exact h.trans hw
  have f4 : F_rest [.str (T [57, 55])] st = .ok (.int 0) st := by rw [f_rest]; rfl
  have f5 : F_is_good [.str (T [])] st = .ok (.bl false) st := by
    rw [f_is_good (by decide)]
    rfl
  have m0 : mkT [] st = .ok (.tup []) st := mkT_e (by show 0 ≤ big; decide)
  have m1 : mkT [.str (T num0)] st = .ok (.tup [.str (T num0)]) st := mkT_e (by show 1 ≤ big; decide)
  have c1 : cmpF pc_kc .Eq (.tup []) (.tup []) st = .ok (.bl true) st := rfl
  have c2 : cmpF pc_kc .Eq (.tup [.str (T num0)]) (.tup [.str (T num0)]) st = .ok (.bl true) st := by
    have e0 : cmpF pc_kc .Eq = dEq := rfl
    rw [e0]
    unfold dEq
    have e : dEqv st (.tup [.str (T num0)]) (.tup [.str (T num0)]) = some ((T num0 == T num0) && true) := rfl
    rw [e, beq_self_eq_true]
    rfl
  have eqs : ∀ x : Str, (x == x) = true := fun x => beq_self_eq_true x
  have z0 : ((0 : Int) == 0) = true := rfl
  unfold M_law_plain_s10
  simp only [sRet_e, sAndT_e, sBin_e, sCall_e, sCons_e, sVar_0, R.bind_ok, sNil_e, f1, sTupE_e, m0, c1, rAndT_t]
  simp only [sVal_e, R.bind_ok, f2, m1, c2, rAndT_t, sCons_e, sNil_e, f3, cmp_eqS, eqs, f4, cmp_eqI, z0, sNotT_e, sCall_e, f5, rNotT_bl, Bool.not_false, sE2_ok]
theorem f_plain (hd : Dice st) : F_law_plain [] st = .ok (.bl true) st := by
  have hok := dice_ok hd
  have hr : M_law_plain (([] : List D).map some ++ List.replicate (S_law_plain.N.length - 0) none) st = .rt (.bl true) st := by
    show M_law_plain [none, none, none] st = _
    unfold M_law_plain
    rw [seq_nx p_s0, seq_nx p_s1, seq_nx p_s3, seq_nx p_s5, seq_nx p_s7, seq_nx p_s9, sSeq_e, p_s10 hok, then_rt]
  have e : F_law_plain [] st = bar true (endF false st.length (M_law_plain (([] : List D).map some ++ List.replicate (S_law_plain.N.length - 0) none) st)) := by
    unfold F_law_plain semF
    rw [if_pos ⟨rfl, fun _ => ⟨rfl, hok⟩⟩, den_law_plain]
    rfl
  rw [e, hr, endF_rt]
  show (if noRef st.length (.bl true) && okSt st.length st then R.ok (D.bl true) st else .stuck) = _
  rw [hok]
  rfl
theorem hlaw (ns : List Int) (_ : ns.length ≤ 63) (_ : ∀ z ∈ ns, Builtin.Int.intBits z ≤ 1048576) : ∃ st, F_law [.scr ns] [] = .ok (.bl true) st := by
  obtain ⟨a, b, c, hrd⟩ := f_rounds ns
  have hd : Dice (DS a b c) := ⟨a, b, c, rfl⟩
  obtain ⟨ρ', st', hd', ef⟩ := l_f0 (ρ := [some (.scr ns), some landsD, some (.ref 0)] ++ List.replicate 24 none) (st := DS a b c) rfl rfl rfl hd
  have e0 : (sAsg (sLstE false (sCons (sVal (.str (T [97, 116]))) (sCons (sVal (.str (T [98, 101]))) (sCons (sVal (.str (T [99, 104]))) (sCons (sVal (.str (T [102, 105]))) (sCons (sVal (.str (T [110, 111]))) sNil)))))) (gName' 1)) ([some (.scr ns)] ++ List.replicate 26 none) [] = .nx ([some (.scr ns), some landsD] ++ List.replicate 25 none) [] := by
    refine asg (d := landsD) ?_ (by show 1 < 27; decide)
    simp only [sLstE_e, sCons_e, sVal_e, R.bind_ok, sNil_e]
    exact mkL_f (by show 5 ≤ big; decide)
  have e1 : (sForS (iVal (sCall F_law_rounds (sCons (sVar 0) (sCons (sVal (.int 1)) sNil)))) (gName' 2) M_law_f0) ([some (.scr ns), some landsD] ++ List.replicate 25 none) [] = .nx ρ' st' := by
    have hv : sVar 0 ([some (.scr ns), some landsD] ++ List.replicate 25 none) [] = .ok (.scr ns) [] := rfl
    rw [for_wkL (ds := [.ref 0]) (st1 := DS a b c) (by simp only [iVal_e, sCall_e, sCons_e, hv, R.bind_ok, sVal_e, sNil_e, hrd, dIter_lst])]
    rw [forL_cons (gn (by show 2 < 27; decide))]
    have z : List.set ([some (.scr ns), some landsD] ++ List.replicate 25 none) 2 (some (D.ref 0)) = [some (.scr ns), some landsD, some (.ref 0)] ++ List.replicate 24 none := rfl
    rw [z, ef]
    rfl
  have hr : M_law ([D.scr ns].map some ++ List.replicate (S_law.N.length - 1) none) [] = .rt (.bl true) st' := by
    show M_law ([some (.scr ns)] ++ List.replicate 26 none) [] = _
    unfold M_law
    rw [seq_nx e0, seq_nx e1]
    simp only [sSeq_e, sRet_e, sCall_e, sNil_e, R.bind_ok, f_plain hd', sE2_ok, then_rt]
  refine ⟨[], ?_⟩
  have e : F_law [.scr ns] [] = bar true (endF false 0 (M_law ([D.scr ns].map some ++ List.replicate (S_law.N.length - 1) none) [])) := by
    unfold F_law semF
    rw [if_pos ⟨rfl, fun _ => ⟨rfl, rfl⟩⟩, den_law]
    rfl
  rw [e, hr]
  obtain ⟨a', b', c', rfl⟩ := hd'
  rfl
end
end K03

namespace K03
open L2 PyProof.Rows PySem.Spec PySem Bk
theorem run (w : World) : HandSHeadRun.RunEq rowR (PySem.W.view rowR.prog [22]) hk ob 3000 loose w := by
  refine PySem.W.byRow2 "special-get-raises" (P := fun w => HandSHeadRun.RunEq rowR (PySem.W.view rowR.prog [22]) hk ob 3000 loose w) (fun w os => ?_) (fun w os => ?_) w
  · kernel_rfl
  · kernel_rfl
end K03
open PySem PySem.W PySem.Calls PyProof.Rows
theorem PySem.Challenge.cw_bankstack_k03_numbers_that_check_holds : PySem.Challenge.rw_bankstack_k03_numbers_that_check.Holds := by
  w_on; o_law
  refine HandSHeadRun.head_any (r := OpenLaw.row PySem.Challenge.rw_bankstack_k03_numbers_that_check) (q := view (OpenLaw.row PySem.Challenge.rw_bankstack_k03_numbers_that_check).prog [22]) (H := K03.hk) (ob := K03.ob) (M := 3000) (loose := K03.loose) (d := HandSHeadRun.topDef (OpenLaw.row PySem.Challenge.rw_bankstack_k03_numbers_that_check).prog 22) (kwd := []) K03.ob_eq
    (by kernel_rfl) (fun s => by kernel_rfl) K03.run (by kernel_rfl) (by kernel_rfl) (by kernel_rfl) (by rfl) (by first | assumption | decide +kernel) (by decide +kernel) ⟨rfl, rfl, rfl, rfl, rfl, by decide +kernel⟩ ?hw ?hc
  case hw => w_witness2
  case hc =>
    refine LamX.walk_ofTsE (l := PySem.Challenge.rw_bankstack_k03_numbers_that_check) (n := 63) (k := 25) (x := "script") (CX := fun w => L2.CX PySem.Challenge.rw_bankstack_k03_numbers_that_check.prog w) rfl (by decide) (by kernel_rfl) ⟨rfl, by decide, by decide⟩ ?F (fun w H s e s' ⟨a, B, H', cls, d, h⟩ => h.2.2.2.2.2.2.2)
    intro w mg fa h Y G hmg0
    have hmg : mg ("law" : PySem.Str) = some (.ref fa) := by
      have e : (HandSHeadRun.topDef (OpenLaw.row PySem.Challenge.rw_bankstack_k03_numbers_that_check).prog 22).name = ("law" : PySem.Str) := by kernel_rfl
      rw [← e]
      exact hmg0
    exact Bk.law_end K03.pc K03.fa K03.fn PySem.Challenge.rw_bankstack_k03_numbers_that_check 25 K03.F_law K03.kds_ok (fun w K mg base E => K03.ok_law E) (dd := K03.dd_law) K03.law_dd rfl K03.law_fa rfl (fun _ _ _ _ _ _ u => rfl) K03.hlaw w mg fa h Y G hmg

