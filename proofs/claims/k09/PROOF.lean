import PyProof.Rows.All
import Wide.All
import OpenK.AllK
import Wide.FinOn
import HandS.ForMost
import HandS.Conv
import HandS.IsInst
import HandS.Exc
import HandS.TryOnly
import HandS.ExcOwn
import HandS.WordsExc
import HandS.Wide
import HandS.DictComp
import HandS.More
import HandS.Zip
import HandS.TupAny
import KE.KDictPairs
import KE.DataMinMax
import HandS.SetFor
import KE.SortData
import HandS.Nested
import HandS.Deep
import HandS.Small
import KE.KStateDown
import HandS.Ends
import HandS.Words
import HandS.Defaults
import HandS.Head0
import HandS.Head1
import HandS.Head2
import HandS.HeadEnd
import HandS.HeadHook1
import HandS.HeadHook2
import PyProof.ExcFactsAll.ValueError
import PySem.Challenge.RW_whichbroke_k09_what_a_line_may_show
set_option Elab.async false
set_option linter.all false
set_option maxRecDepth 100000
set_option maxHeartbeats 0
/-! A machine of values: Python data as plain Lean data, a small language of resolved terms, what a term gives. -/
namespace PyV
open PySem L2
/-- plain data -/
inductive D where
  | non | bl (b : Bool) | int (i : Int) | str (x : Str) | opq (v : V)
  | tup (xs : List D) | prs (xs : List D) | lst (xs : List D) | frz (xs : List D) | dct (kvs : List (Key × D))
/-- an answer: none that is known; a value; an exception of the class of that name -/
inductive M (α : Type) where
  | stuck | ok (a : α) | ex (c : Str)
@[inline] def M.bind {α β : Type} (x : M α) (f : α → M β) : M β := match x with
  | .stuck => .stuck
  | .ok a => f a
  | .ex c => .ex c
instance : Monad M where
  pure := M.ok
  bind := M.bind
/-- what stands for a value: an own list or dict (to be changed by its name alone); one just made; any other; the Bool: all that can be changed in it is of this call's making -/
inductive Kd where
  | own | top (n : Bool) | pl (n : Bool)
inductive Tg where
  | own | new | old
abbrev Env := List (Option (Tg × D))
mutual
def pureD : D → Bool
  | .lst _ => false
  | .dct _ => false
  | .tup xs => pureL xs
  | .prs xs => pureL xs
  | .opq _ => true
  | .frz xs => pureL xs
  | _ => true
def pureL : List D → Bool
  | [] => true
  | d :: ds => pureD d && pureL ds
end
/-! ### what is held by what -/
/-- a list that nobody can change -/
def FrzL (K : PySem.W.Frag) (H : Hp) (a : Addr) (xs : List V) : Prop :=
  (∃ o, H a = some (.frz o (.lst xs))) ∨
    ∃ (o : Obj) (its : Array Value) (n : Nat), K.lookup a = some o ∧ o.cls = .type "list" ∧ o.dict = none ∧ o.data = .seq its n ∧ its.size ≤ sizeLine ∧ Vals xs its.toList
theorem FrzL.sq {K : PySem.W.Frag} {H : Hp} {a : Addr} {xs : List V} (h : FrzL K H a xs) : SqL K H a xs := h.elim (fun z => .inl (.inr z)) .inr
/-- a tuple that has no dict of its own -/
def SqP (K : PySem.W.Frag) (H : Hp) (a : Addr) (xs : List V) : Prop :=
  (∃ o, o.cls = .type "tuple" ∧ o.dict = none ∧ H a = some (.frz o (.tup xs))) ∨
    ∃ (o : Obj) (its : Array Value) (n : Nat), K.lookup a = some o ∧ o.cls = .type "tuple" ∧ o.dict = none ∧ o.data = .seq its n ∧ its.size ≤ sizeLine ∧ Vals xs its.toList
theorem SqP.sq {K : PySem.W.Frag} {H : Hp} {a : Addr} {xs : List V} (h : SqP K H a xs) : SqT K H a xs := h.elim (fun ⟨o, _, _, z⟩ => .inl (.inr ⟨o, z⟩)) fun ⟨o, its, n, h1, h2, _, h3⟩ => .inr ⟨o, its, n, h1, h2, h3⟩
/-- but the place a -/
abbrev But (N : Addr → Prop) (a : Addr) : Addr → Prop := fun b => N b ∧ b ≠ a
section
variable (K : PySem.W.Frag) (H : Hp)
mutual
inductive Rep : (Addr → Prop) → D → V → Prop
  | non {N : Addr → Prop} : Rep N .non .non
  | bl {N : Addr → Prop} (b : Bool) : Rep N (.bl b) (.bl b)
  | int {N : Addr → Prop} (i : Int) : Rep N (.int i) (.int i)
  | str {N : Addr → Prop} (x : Str) : Rep N (.str x) (.str x)
  | opq {N : Addr → Prop} (v : V) : Rep N (.opq v) v
  | tup {N : Addr → Prop} {a : Addr} {xs : List V} {ds : List D} : SqP K H a xs → Reps N ds xs → Rep N (.tup ds) (.ref a)
  | prs {N : Addr → Prop} {a : Addr} {xs : List V} {ds : List D} : SqT K H a xs → Reps N ds xs → Rep N (.prs ds) (.ref a)
  | frz {N : Addr → Prop} {a : Addr} {xs : List V} {ds : List D} : FrzL K H a xs → Reps N ds xs → Rep N (.frz ds) (.ref a)
  | lst {N : Addr → Prop} {a : Addr} {xs : List V} {ds : List D} : N a → H a = some (.lst xs) → Reps (But N a) ds xs → Rep N (.lst ds) (.ref a)
  | dct {N : Addr → Prop} {a : Addr} {vs : List (Key × V)} {kvs : List (Key × D)} : N a → H a = some (.dK vs) → RepK (But N a) kvs vs → Rep N (.dct kvs) (.ref a)
inductive Reps : (Addr → Prop) → List D → List V → Prop
  | nil {N : Addr → Prop} : Reps N [] []
  | cons {N : Addr → Prop} {d : D} {ds : List D} {v : V} {vs : List V} : Rep N d v → Reps N ds vs → Reps N (d :: ds) (v :: vs)
inductive RepK : (Addr → Prop) → List (Key × D) → List (Key × V) → Prop
  | nil {N : Addr → Prop} : RepK N [] []
  | cons {N : Addr → Prop} {k : Key} {d : D} {ds : List (Key × D)} {v : V} {vs : List (Key × V)} : Rep N d v → RepK N ds vs → RepK N ((k, d) :: ds) ((k, v) :: vs)
end
end
section
variable {K : PySem.W.Frag} {H H' : Hp}
/-- what a change of the heap and of the allowed places must bear -/
structure Mov (K : PySem.W.Frag) (H H' : Hp) (N N' : Addr → Prop) : Prop where
  t : ∀ a xs, SqT K H a xs → SqT K H' a xs
  p : ∀ a xs, SqP K H a xs → SqP K H' a xs
  f : ∀ a xs, FrzL K H a xs → FrzL K H' a xs
  l : ∀ a xs, N a → H a = some (.lst xs) → N' a ∧ H' a = some (.lst xs)
  d : ∀ a xs, N a → H a = some (.dK xs) → N' a ∧ H' a = some (.dK xs)
theorem Mov.but {N N' : Addr → Prop} (m : Mov K H H' N N') (a : Addr) : Mov K H H' (But N a) (But N' a) :=
  ⟨m.t, m.p, m.f, fun b xs n h => ⟨⟨(m.l b xs n.1 h).1, n.2⟩, (m.l b xs n.1 h).2⟩, fun b xs n h => ⟨⟨(m.d b xs n.1 h).1, n.2⟩, (m.d b xs n.1 h).2⟩⟩
mutual
theorem Rep.move : ∀ {N N' : Addr → Prop} {d : D} {v : V}, Mov K H H' N N' → Rep K H N d v → Rep K H' N' d v
  | _, _, _, _, _, .non => .non
  | _, _, _, _, _, .bl b => .bl b
  | _, _, _, _, _, .int i => .int i
  | _, _, _, _, _, .str x => .str x
  | _, _, _, _, _, .opq v => .opq v
  | _, _, _, _, m, .tup h r => .tup (m.p _ _ h) (Reps.move m r)
  | _, _, _, _, m, .prs h r => .prs (m.t _ _ h) (Reps.move m r)
  | _, _, _, _, m, .frz h r => .frz (m.f _ _ h) (Reps.move m r)
  | _, _, _, _, m, .lst n h r => .lst (m.l _ _ n h).1 (m.l _ _ n h).2 (Reps.move (m.but _) r)
  | _, _, _, _, m, .dct n h r => .dct (m.d _ _ n h).1 (m.d _ _ n h).2 (RepK.move (m.but _) r)
theorem Reps.move : ∀ {N N' : Addr → Prop} {ds : List D} {vs : List V}, Mov K H H' N N' → Reps K H N ds vs → Reps K H' N' ds vs
  | _, _, _, _, _, .nil => .nil
  | _, _, _, _, m, .cons r q => .cons (Rep.move m r) (Reps.move m q)
theorem RepK.move : ∀ {N N' : Addr → Prop} {ds : List (Key × D)} {vs : List (Key × V)}, Mov K H H' N N' → RepK K H N ds vs → RepK K H' N' ds vs
  | _, _, _, _, _, .nil => .nil
  | _, _, _, _, m, .cons r q => .cons (Rep.move m r) (RepK.move m q)
end
end
/-! ### how heaps go on -/
/-- all that was known stands (the tables of code objects may grow), nothing known is gone, J is kept -/
structure Ext (J : Hp → Prop) (H H' : Hp) : Prop where
  keep : ∀ b o, H b = some o → (∀ ps, o ≠ .tbl ps) → H' b = some o
  free : ∀ b, H' b = none → H b = none
  j : J H → J H'
theorem Ext.refl {J : Hp → Prop} (H : Hp) : Ext J H H := ⟨fun _ _ h _ => h, fun _ h => h, id⟩
theorem Ext.trans {J : Hp → Prop} {H H1 H2 : Hp} (a : Ext J H H1) (b : Ext J H1 H2) : Ext J H H2 :=
  ⟨fun c o h n => b.keep c o (a.keep c o h n) n, fun c h => a.free c (b.free c h), fun h => b.j (a.j h)⟩
/-- what J must bear -/
structure JOk (J : Hp → Prop) : Prop where
  new : ∀ H p o, H p = none → J H → J (upd H p o)
  lst : ∀ H p xs ys, H p = some (.lst xs) → J H → J (upd H p (.lst ys))
  dK : ∀ H p xs ys, H p = some (.dK xs) → J H → J (upd H p (.dK ys))
section
variable {J : Hp → Prop} {K : PySem.W.Frag} {H H' : Hp} {N N' : Addr → Prop} {d : D} {v : V} {ds : List D} {vs : List V} {a p : Addr} {o : HO} {xs : List V}
theorem Ext.new (jk : JOk J) (h : H p = none) : Ext J H (upd H p o) := ⟨fun a u e _ => by rw [upd_ne (ne_of_none e h)]; exact e, fun b e => by
  by_cases hb : b = p
  · rw [hb]; exact h
  · rw [upd_ne hb] at e; exact e, jk.new H p o h⟩
theorem Ext.rd (e : Ext J H H') {u : HO} (n : ∀ ps, u ≠ .tbl ps) (h : Rd H a u) : Rd H' a u := h.elim (fun z => .inl (e.keep _ _ z n)) fun ⟨o, z⟩ => .inr ⟨o, e.keep _ _ z fun _ q => nomatch q⟩
theorem Ext.sqL (e : Ext J H H') (h : SqL K H a xs) : SqL K H' a xs := h.elim (fun z => .inl (e.rd (fun _ q => nomatch q) z)) .inr
theorem Ext.sqT (e : Ext J H H') (h : SqT K H a xs) : SqT K H' a xs := h.elim (fun z => .inl (e.rd (fun _ q => nomatch q) z)) .inr
theorem Ext.sqP (e : Ext J H H') (h : SqP K H a xs) : SqP K H' a xs := h.elim (fun ⟨o, h1, h2, z⟩ => .inl ⟨o, h1, h2, e.keep _ _ z fun _ q => nomatch q⟩) .inr
theorem Ext.frzL (e : Ext J H H') (h : FrzL K H a xs) : FrzL K H' a xs := h.elim (fun ⟨o, z⟩ => .inl ⟨o, e.keep _ _ z fun _ q => nomatch q⟩) .inr
theorem Rep.ext (e : Ext J H H') (r : Rep K H N d v) : Rep K H' N d v :=
  r.move ⟨fun _ _ => e.sqT, fun _ _ => e.sqP, fun _ _ => e.frzL, fun _ _ n h => ⟨n, e.keep _ _ h fun _ q => nomatch q⟩, fun _ _ n h => ⟨n, e.keep _ _ h fun _ q => nomatch q⟩⟩
theorem Reps.ext (e : Ext J H H') (r : Reps K H N ds vs) : Reps K H' N ds vs :=
  r.move ⟨fun _ _ => e.sqT, fun _ _ => e.sqP, fun _ _ => e.frzL, fun _ _ n h => ⟨n, e.keep _ _ h fun _ q => nomatch q⟩, fun _ _ n h => ⟨n, e.keep _ _ h fun _ q => nomatch q⟩⟩
theorem RepK.ext {kd : List (Key × D)} {kv : List (Key × V)} (e : Ext J H H') (r : RepK K H N kd kv) : RepK K H' N kd kv :=
  r.move ⟨fun _ _ => e.sqT, fun _ _ => e.sqP, fun _ _ => e.frzL, fun _ _ n h => ⟨n, e.keep _ _ h fun _ q => nomatch q⟩, fun _ _ n h => ⟨n, e.keep _ _ h fun _ q => nomatch q⟩⟩
theorem Rep.sub (s : ∀ a, N a → H a ≠ none → N' a) (r : Rep K H N d v) : Rep K H N' d v :=
  r.move ⟨fun _ _ => id, fun _ _ => id, fun _ _ => id, fun a _ n h => ⟨s a n (by rw [h]; simp), h⟩, fun a _ n h => ⟨s a n (by rw [h]; simp), h⟩⟩
theorem Reps.sub (s : ∀ a, N a → H a ≠ none → N' a) (r : Reps K H N ds vs) : Reps K H N' ds vs :=
  r.move ⟨fun _ _ => id, fun _ _ => id, fun _ _ => id, fun a _ n h => ⟨s a n (by rw [h]; simp), h⟩, fun a _ n h => ⟨s a n (by rw [h]; simp), h⟩⟩
theorem RepK.sub {kd : List (Key × D)} {kv : List (Key × V)} (s : ∀ a, N a → H a ≠ none → N' a) (r : RepK K H N kd kv) : RepK K H N' kd kv :=
  r.move ⟨fun _ _ => id, fun _ _ => id, fun _ _ => id, fun a _ n h => ⟨s a n (by rw [h]; simp), h⟩, fun a _ n h => ⟨s a n (by rw [h]; simp), h⟩⟩
/-- may be changed by its name -/
def Chg : HO → Prop
  | .lst _ => True
  | .dK _ => True
  | _ => False
theorem sqT_upd {q : HO} (h : H p = some q) (c : Chg q) (e : SqT K H a xs) : SqT K (upd H p o) a xs := e.elim (fun z => .inl (z.elim (fun z => .inl (by
    rw [upd_ne]
    · exact z
    · intro e; subst e; rw [h] at z; cases z; exact c)) fun ⟨u, z⟩ => .inr ⟨u, by
    rw [upd_ne]
    · exact z
    · intro e; subst e; rw [h] at z; cases z; exact c⟩)) .inr
theorem sqP_upd {q : HO} (h : H p = some q) (c : Chg q) (e : SqP K H a xs) : SqP K (upd H p o) a xs := e.elim (fun ⟨u, h1, h2, z⟩ => .inl ⟨u, h1, h2, by
    rw [upd_ne]
    · exact z
    · intro e; subst e; rw [h] at z; cases z; exact c⟩) .inr
theorem frzL_upd {q : HO} (h : H p = some q) (c : Chg q) (e : FrzL K H a xs) : FrzL K (upd H p o) a xs := e.elim (fun ⟨u, z⟩ => .inl ⟨u, by
    rw [upd_ne]
    · exact z
    · intro e; subst e; rw [h] at z; cases z; exact c⟩) .inr
theorem Rep.upd {q : HO} (h : H p = some q) (c : Chg q) (n : ∀ a, N a → a ≠ p) (r : Rep K H N d v) : Rep K (upd H p o) N d v :=
  r.move ⟨fun _ _ => sqT_upd h c, fun _ _ => sqP_upd h c, fun _ _ => frzL_upd h c, fun a _ z e => ⟨z, by rw [upd_ne (n a z)]; exact e⟩, fun a _ z e => ⟨z, by rw [upd_ne (n a z)]; exact e⟩⟩
theorem Reps.upd {q : HO} (h : H p = some q) (c : Chg q) (n : ∀ a, N a → a ≠ p) (r : Reps K H N ds vs) : Reps K (L2.upd H p o) N ds vs :=
  r.move ⟨fun _ _ => sqT_upd h c, fun _ _ => sqP_upd h c, fun _ _ => frzL_upd h c, fun a _ z e => ⟨z, by rw [upd_ne (n a z)]; exact e⟩, fun a _ z e => ⟨z, by rw [upd_ne (n a z)]; exact e⟩⟩
theorem RepK.upd {kd : List (Key × D)} {kv : List (Key × V)} {q : HO} (h : H p = some q) (c : Chg q) (n : ∀ a, N a → a ≠ p) (r : RepK K H N kd kv) : RepK K (L2.upd H p o) N kd kv :=
  r.move ⟨fun _ _ => sqT_upd h c, fun _ _ => sqP_upd h c, fun _ _ => frzL_upd h c, fun a _ z e => ⟨z, by rw [upd_ne (n a z)]; exact e⟩, fun a _ z e => ⟨z, by rw [upd_ne (n a z)]; exact e⟩⟩
mutual
theorem Rep.pure : ∀ {N N' : Addr → Prop} {d : D} {v : V}, pureD d = true → Rep K H N d v → Rep K H N' d v
  | _, _, _, _, _, .non => .non
  | _, _, _, _, _, .bl b => .bl b
  | _, _, _, _, _, .int i => .int i
  | _, _, _, _, _, .str x => .str x
  | _, _, _, _, _, .opq v => .opq v
  | _, _, _, _, h, .tup q r => .tup q (Reps.pure (by simpa [pureD] using h) r)
  | _, _, _, _, h, .prs q r => .prs q (Reps.pure (by simpa [pureD] using h) r)
  | _, _, _, _, h, .frz q r => .frz q (Reps.pure (by simpa [pureD] using h) r)
  | _, _, _, _, h, .lst _ _ _ => by simp [pureD] at h
  | _, _, _, _, h, .dct _ _ _ => by simp [pureD] at h
theorem Reps.pure : ∀ {N N' : Addr → Prop} {ds : List D} {vs : List V}, pureL ds = true → Reps K H N ds vs → Reps K H N' ds vs
  | _, _, _, _, _, .nil => .nil
  | _, _, _, _, h, .cons r q => by
    have h' := (Bool.and_eq_true_iff).mp (show (pureD _ && pureL _) = true from h)
    exact .cons (Rep.pure h'.1 r) (Reps.pure h'.2 q)
end
theorem Reps.length : ∀ {ds : List D} {vs : List V}, Reps K H N ds vs → ds.length = vs.length
  | _, _, .nil => rfl
  | _, _, .cons _ q => congrArg (· + 1) q.length
theorem Reps.get : ∀ {ds : List D} {vs : List V} {i : Nat} {d : D}, Reps K H N ds vs → ds[i]? = some d → ∃ v, vs[i]? = some v ∧ Rep K H N d v
  | _, _, _, _, .nil, h => by simp at h
  | _, _, 0, _, .cons r _, h => by simp at h; subst h; exact ⟨_, rfl, r⟩
  | _, _, i + 1, d, .cons _ q, h => by
    obtain ⟨v, h1, h2⟩ := q.get (i := i) (d := d) (by simpa using h)
    exact ⟨v, by simpa using h1, h2⟩
theorem Reps.getV : ∀ {ds : List D} {vs : List V} {i : Nat} {v : V}, Reps K H N ds vs → vs[i]? = some v → ∃ d, ds[i]? = some d ∧ Rep K H N d v
  | _, _, _, _, .nil, h => by simp at h
  | _, _, 0, _, .cons r _, h => by simp at h; subst h; exact ⟨_, rfl, r⟩
  | _, _, i + 1, v, .cons _ q, h => by
    obtain ⟨d, h1, h2⟩ := q.getV (i := i) (v := v) (by simpa using h)
    exact ⟨d, by simpa using h1, h2⟩
theorem Reps.app : ∀ {ds es : List D} {vs ws : List V}, Reps K H N ds vs → Reps K H N es ws → Reps K H N (ds ++ es) (vs ++ ws)
  | _, _, _, _, .nil, s => s
  | _, _, _, _, .cons r q, s => .cons r (q.app s)
theorem Reps.take : ∀ (n : Nat) {ds : List D} {vs : List V}, Reps K H N ds vs → Reps K H N (ds.take n) (vs.take n)
  | 0, _, _, _ => .nil
  | _ + 1, _, _, .nil => .nil
  | n + 1, _, _, .cons r q => .cons r (q.take n)
theorem Reps.drop : ∀ (n : Nat) {ds : List D} {vs : List V}, Reps K H N ds vs → Reps K H N (ds.drop n) (vs.drop n)
  | 0, _, _, r => r
  | _ + 1, _, _, .nil => .nil
  | n + 1, _, _, .cons _ q => q.drop n
theorem Reps.set : ∀ {ds : List D} {vs : List V} (i : Nat) {d : D} {v : V}, Rep K H N d v → Reps K H N ds vs → Reps K H N (ds.set i d) (vs.set i v)
  | _, _, _, _, _, _, .nil => .nil
  | _, _, 0, _, _, r, .cons _ q => .cons r q
  | _, _, i + 1, _, _, r, .cons s q => .cons s (Reps.set i r q)
theorem Reps.rep (n : Nat) {d : D} {v : V} (r : Rep K H N d v) : Reps K H N (List.replicate n d) (List.replicate n v) := by
  induction n with
  | zero => exact .nil
  | succ n ih => exact .cons r ih
end
end PyV
namespace PyV
open PySem L2 PyProof.Rows
/-! ### new tuples, with what they are -/
def PlT (o : Obj) : Prop := o.cls = .type "tuple" ∧ o.dict = none
section
variable {X : Cx} {es : List Expr} {t : TA} {pos : Pos} {x1 : Nat}
theorem call_tuple_ofP : CallR X (.type "tuple") (fun xs H Q => ∃ p ys, xs = [.ref p] ∧ ((SqL X.K H p ys ∧ ∀ l o, H l = none → PlT o → Q (.ref l) (upd H l (.frz o (.tup ys)))) ∨ (SqT X.K H p ys ∧ Q (.ref p) H))) := by
  intro pins s σ H xs us Q I r h
  obtain ⟨p, ys, rfl, h⟩ := h
  obtain ⟨u, rfl, rx⟩ := vals1 r
  cases rx
  rcases h with ⟨hq, q⟩ | ⟨hq, q⟩
  · obtain ⟨its, r', pl, hz⟩ := I.list hq
    have hlen := r'.length
    refine call_tuple_list pl.isList (fun h' kp => ?_) (by simp only [List.size_toArray] <;> omega)
    have I1 : Inv X pins σ H { s with heap := h' } := I.kept (t' := s.toks) kp
    have I2 : Inv X pins σ (upd H h'.objs.size (.frz { cls := .type "tuple", data := .seq its.toArray } (.tup ys))) { s with heap := h'.push { cls := .type "tuple", data := .seq its.toArray } } :=
      I1.laid (t' := s.toks) (fun b o e => Heap.get?_push_of_some _ e) (Nat.le_refl _) (show ObjOk X.prog X.w _ _ _ (.frz _ (.tup ys)) from ⟨Heap.get?_push_size _ rfl, hz, its, r', IsTup.new _ _⟩)
    exact ⟨.ref h'.objs.size, _, I2, rfl, q _ _ (I1.hok.fresh (Nat.le_refl _)) ⟨rfl, rfl⟩⟩
  · obtain ⟨its, r', pl, hz⟩ := I.tuple hq
    exact call_tuple_same pl ⟨.ref p, H, I, rfl, q⟩
def tTupP (t : TA) : TE := fun σ H Q => t σ H fun xs H1 => xs.length ≤ sizeLine ∧ ∀ p o, H1 p = none → PlT o → Q (.ref p) (upd H1 p (.frz o (.tup xs)))
theorem pe_tupP (h : PA X es t) : PE X (.Tuple es x1 pos) (tTupP t) := by
  refine ⟨fun pins s σ H Q I hq => ?_⟩
  refine wpAny_Tuple_spliced (thn (h.run pos pins s σ H _ I hq) fun us s1 ⟨xs, H1, I1, r, z, q⟩ => ⟨by rw [← r.length]; exact z, ?_⟩)
  have hf : H1 s1.heap.objs.size = none := I1.hok.fresh (Nat.le_refl _)
  refine ⟨.ref s1.heap.objs.size, upd H1 s1.heap.objs.size (.frz { cls := .type "tuple", data := .seq us.toArray } (.tup xs)), I1.laid (t' := s1.toks) (fun b u e => Heap.get?_push_of_some _ e) (Nat.le_refl _) ?_, rfl, q _ _ hf ⟨rfl, rfl⟩⟩
  exact ⟨Heap.get?_push_size _ rfl, z, us, r, ⟨_, Heap.get?_push_size _ rfl, rfl, _, rfl⟩⟩
def rCatP (K : PySem.W.Frag) : R2 := fun x y H Q => ∃ a b xs ys, x = .ref a ∧ y = .ref b ∧ SqT K H a xs ∧ SqT K H b ys ∧ xs.length + ys.length ≤ sizeLine ∧
  (xs = [] → Q (.ref b) H) ∧ (xs ≠ [] → ys = [] → Q (.ref a) H) ∧ (xs ≠ [] → ys ≠ [] → ∀ p o, H p = none → PlT o → Q (.ref p) (upd H p (.frz o (.tup (xs ++ ys)))))
theorem op_catP : OpR X (binaryOp .Add) (rCatP X.K) := by
  intro pins s σ H x y v u Q I rx ry h
  obtain ⟨a, b, xs, ys, rfl, rfl, ha, hb, hz, q0, q1, q2⟩ := h
  cases rx
  cases ry
  obtain ⟨its, r1, p1, _⟩ := I.tuple ha
  obtain ⟨its2, r2, p2, _⟩ := I.tuple hb
  by_cases hx : xs = []
  · subst hx
    cases r1
    exact cat_tup0 p1 p2 ⟨.ref b, H, I, rfl, q0 rfl⟩
  · refine HT.cat_tup p1 p2 (fun z => hx (r1.nil_iff.mp z)) (fun z => ⟨.ref a, H, I, rfl, q1 hx (r2.nil_iff.mp z)⟩) (fun z => ?_) (by rw [← r1.length, ← r2.length]; exact hz)
    refine ⟨.ref s.heap.objs.size, _, I.laid (t' := s.toks) (o := .frz { cls := .type "tuple", data := .seq (its ++ its2).toArray } (.tup (xs ++ ys))) (fun b ob q => Heap.get?_push_of_some _ q) (Nat.le_refl _) ?_, rfl, q2 hx (fun w => z (r2.nil_iff.mpr w)) _ _ (I.hok.fresh (Nat.le_refl _)) ⟨rfl, rfl⟩⟩
    exact ⟨Heap.get?_push_size _ rfl, by rw [List.length_append]; exact hz, _, r1.append r2, IsTup.new _ _⟩
def rSlP (K : PySem.W.Frag) : V → Option Int → Option Int → Hp → VK → Prop := fun x lo hi H Q => ∃ a xs, x = .ref a ∧ SqT K H a xs ∧
  (HT.sIx xs.length 0 lo = 0 ∧ HT.sIx xs.length xs.length hi = xs.length → Q (.ref a) H) ∧ (¬ (HT.sIx xs.length 0 lo = 0 ∧ HT.sIx xs.length xs.length hi = xs.length) → ∀ p o, H p = none → PlT o → Q (.ref p) (upd H p (.frz o (.tup (cutV xs lo hi)))))
theorem sl_tupP : SlR X (rSlP X.K) := by
  intro pins s σ H x v vl vu lo hi sl Q I rx hs pl pu h
  obtain ⟨a, xs, rfl, hx, q1, q2⟩ := h
  by_cases hw : HT.sIx xs.length 0 lo = 0 ∧ HT.sIx xs.length xs.length hi = xs.length
  · exact sl_tupA pins s σ H _ v vl vu lo hi sl Q I rx hs pl pu ⟨a, xs, rfl, hx, q1, fun z => absurd hw z⟩
  · cases rx
    obtain ⟨its, r, ht, hz⟩ := I.tuple hx
    have hlen : its.toArray.size = xs.length := by rw [List.size_toArray]; exact r.length.symm
    refine ⟨"tuple", _, PyProof.Rows.slot_tuple_getitem.lookup, ht.typeIs, ?_⟩
    refine HT.getItem_tuple_cut ht hs pl pu (by rw [hlen]; exact hw) ?_ (by rw [hlen]; exact hz)
    rw [hlen]
    refine ⟨.ref s.heap.objs.size, _, I.laid (t' := s.toks) (o := .frz { cls := .type "tuple", data := .seq (List.take (HT.sIx xs.length xs.length hi - HT.sIx xs.length 0 lo) (List.drop (HT.sIx xs.length 0 lo) its.toArray.toList)).toArray } (.tup (cutV xs lo hi))) (fun b ob q => Heap.get?_push_of_some _ q) (Nat.le_refl _) ?_, rfl, q2 hw _ _ (I.hok.fresh (Nat.le_refl _)) ⟨rfl, rfl⟩⟩
    exact ⟨Heap.get?_push_size _ rfl, Nat.le_trans (cutV_length xs lo hi) hz, _, (r.drop (HT.sIx xs.length 0 lo)).take (HT.sIx xs.length xs.length hi - HT.sIx xs.length 0 lo), IsTup.new _ _⟩
def tTupRgP (te : L2.St → Hp → (Int → Int → Hp → Prop) → Prop) : TE := fun σ H Q => te σ H fun a b H1 => RgOk a b ∧ ∀ q o, H1 q = none → PlT o → Q (.ref q) (upd H1 q (.frz o (.tup (rgV a b))))
theorem pe_tupRgP {e : Expr} {te : L2.St → Hp → (Int → Int → Hp → Prop) → Prop} {p pos : Pos} (hc : X.calm = true) (hg : Gl X "tuple") (hm : X.mg "tuple" = none) (he : PRg X e te) (na : starEach [e] X.env = (false, eval e X.env) :: starEach [] X.env := by rfl) : PE X (.Call (.Name "tuple" p) [e] [] pos) (tTupRgP te) := by
  refine ⟨fun pins s σ H Q I h => ?_⟩
  refine Call_ (ld_blt I hg hm boot_tuple (PyProof.Rows.callWith_type1 (args_cons (thn (he pins s σ H _ I h) fun x s1 ⟨r, a, b, t, u, v, H1, ex, hr, I1, ok, q⟩ => args_nil ?_) na) na))
  subst ex
  obtain ⟨b1, b2, b3, b4, b5⟩ := ok
  refine call_tuple_range (n := (b - a).toNat) (I1.ok.hd hc) hr (small_one b1 b2 b3 b4) (rangeSize_nat a b) b5 fun h' tk acc hk hi => ?_
  have I2 : Inv X pins σ H1 { s1 with heap := h', toks := tk } := I1.kept hk
  refine ⟨.ref h'.objs.size, upd H1 h'.objs.size (.frz { cls := .type "tuple", data := .seq acc } (.tup (rgV a b))), I2.laid (t' := tk) (fun c o e => Heap.get?_push_of_some _ e) (Nat.le_refl _) (show ObjOk X.prog X.w _ _ _ (.frz _ (.tup (rgV a b))) from ⟨Heap.get?_push_size _ rfl, ?_, acc.toList, vals_rg hi, ?_⟩), rfl, q _ _ (I2.hok.fresh (Nat.le_refl _)) ⟨rfl, rfl⟩⟩
  · rw [rgV_length, sizeLine_eq]; omega
  · rw [Array.toArray_toList]; exact IsTup.new _ _
end
end PyV
namespace PyV
open PySem L2 PyProof.Rows
section
variable {X : Cx}
/-- what a tuple is, below -/
theorem plain_tup {pins : List (Addr × Obj)} {σ : L2.St} {H : Hp} {s : Shared} {a : Addr} {xs : List V} (I : Inv X pins σ H s) (h : SqP X.K H a xs) : ∃ its : List Value, Vals xs its ∧ PySem.PlainSeq "tuple" s.heap a its.toArray ∧ xs.length ≤ sizeLine := by
  obtain ⟨its, rv, ⟨o, ho, hc, n, hd⟩, hz⟩ := I.tuple h.sq
  refine ⟨its, rv, ⟨o, n, ho, hc, ?_, hd⟩, hz⟩
  rcases h with ⟨o', h1, h2, h3⟩ | ⟨o', its', n', h1, h2, h3, _⟩
  · obtain ⟨e, _⟩ := I.hok a _ h3
    rw [ho] at e
    cases e
    exact h2
  · have e := I.kIn a o' h1
    rw [ho] at e
    cases e
    exact h3
/-- dict(t), t a tuple of pairs -/
theorem call_dictT (hcalm : X.calm = true) : CallR X (.type "dict") (fun xs H Q => ∃ (a : Addr) (ps : List Addr) (kvs : List (Key × V)), xs = [.ref a] ∧ SqP X.K H a (ps.map V.ref) ∧ Paired (fun p kv => SqT X.K H p [kV kv.1, kv.2]) ps kvs ∧
    ∀ p, H p = none → Q (.ref p) (upd H p (.dK (mergeK [] kvs)))) := by
  intro pins s σ H xs us Q I r q
  obtain ⟨a, ps, kvs, ex, hq, hp, q⟩ := q
  subst ex
  obtain ⟨u, eu, rx⟩ := vals1 r
  subst eu
  cases rx
  obtain ⟨its, rv, pl, hz⟩ := plain_tup I hq
  have ei := refs_at rv
  subst ei
  rw [List.length_map] at hz
  obtain ⟨prs, rel, hl, hpr⟩ := pairs_of I hp
  have hch : ∀ j : Nat, ∃ p : Value × Value, ∀ q, prs[j]? = some q → p.2 = q.2 ∧ ∃ b : Addr, ps[j]? = some b ∧ IsTup s.heap b #[p.1, p.2] ∧ keyIs q.1 p.1 = true := fun j => by
    cases e : prs[j]? with
    | none => exact ⟨(.none, .none), fun q h => by cases h⟩
    | some q =>
      obtain ⟨b, u, e1, e2, e3⟩ := hpr j q e
      exact ⟨(u, q.2), fun q' h => by cases h; exact ⟨rfl, b, e1, e2, e3⟩⟩
  obtain ⟨pf, hpf⟩ := Classical.axiomOfChoice hch
  have pget : ∀ j p, ((List.range prs.length).map pf)[j]? = some p → p = pf j ∧ ∃ q, prs[j]? = some q := fun j p h => by
    rw [List.getElem?_map] at h
    cases e : (List.range prs.length)[j]? with
    | none => rw [e] at h; cases h
    | some i =>
      rw [e] at h
      obtain ⟨hl, e2⟩ := List.getElem?_eq_some_iff.mp e
      rw [List.getElem_range] at e2
      subst e2
      rw [List.length_range] at hl
      exact ⟨(Option.some.inj h).symm, prs[j], List.getElem?_eq_getElem hl⟩
  refine PySem.call_dict_pairs (knd := mixKind X.prog X.w) (kvs := prs) (PySem.PairArg.tuple a (ps.map Value.ref).toArray (fun j => (ps[j]?).getD 0) ((List.range prs.length).map pf)) (I.ok.hd hcalm) ⟨pl, by simp [hl], fun j k v e => ?_⟩ ⟨by simp, fun j key v e => ?_⟩ (by simp [hl]; exact hz) fun h' tk hd' k => ?_
  · obtain ⟨ep, q', hq'⟩ := pget j _ e
    obtain ⟨e1, b, e2, e3, e4⟩ := hpf j q' hq'
    rw [← ep] at e3
    refine ⟨by simp [e2], ?_⟩
    show PairAt s.heap ((ps[j]?).getD 0) k v
    rw [e2]
    exact .inl e3
  · obtain ⟨ep, q', hq'⟩ := pget j _ e
    obtain ⟨e1, b, e2, e3, e4⟩ := hpf j q' hq'
    rw [← ep] at e1 e4
    have e1 : v = q'.2 := e1
    exact ⟨q'.1, by rw [hq', e1], e4⟩
  · have hm : (s.heap.objs.size == sysModules) = false := beq_eq_false_iff_ne.mpr (Nat.ne_of_gt I.big)
    have hlen : (mergeK [] kvs).length ≤ sizeLine := by
      refine Nat.le_trans (length_mergeK kvs []) ?_
      rw [List.length_nil, Nat.zero_add, rel.length, hl]
      exact hz
    exact ⟨.ref s.heap.objs.size, upd H s.heap.objs.size (.dK (mergeK [] kvs)), I.laid (t' := tk) (fun b o e => k b o (by simp) e) (Nat.le_refl _) (show ObjOk X.prog X.w _ _ _ (.dK (mergeK [] kvs)) from ⟨hlen, hm, merged [] prs, KV.merge rel .nil, hd'⟩), rfl, q _ (I.hok.fresh (Nat.le_refl _))⟩
open PySem.W PySem.SeqAt in
/-- min(l): the item itself -/
theorem min_list_ix {prog : Program} {w : World} {A : Around} {E : Value → Shared → Prop} {s : Shared} {l : Addr} {vs : Array Value} {x : PyData} {xs : List PyData} {as : List Addr} {Q : Value → Shared → Prop} (hh : A.handled = none) (hl : s.heap.IsList l vs) (hr : ReadsAll s.heap vs.toList (x :: xs) as) (ha : AlikeAll (x :: xs)) (hu : A.units + 1 + PyData.depthAll (x :: xs) < cLine)
    (h : ∀ v h' tk, vs[argBest (fun i j => dataLt ((x :: xs).getD i PyData.none) ((x :: xs).getD j PyData.none)) xs.length]? = some v → (∀ b o, s.heap.get? b = some o → h'.get? b = some o) → Q v { s with heap := h', toks := tk }) :
    wpAny (model prog w) A (call (.builtin "min") [.ref l]) Q E s := by
  have hn : vs.size = xs.length + 1 := readsAll_len hr
  refine call_min_walkH (iter_listW (A := A.in1) hh hl fun s₂ e W st hfp hw hk => ?_)
  refine ⟨_, _, _, _, _, _, _, s.heap, _, rfl, W, st, hfp, by omega, hw, hk, cmpIn_lt (A := A.in1) hr ha (by show A.units + 1 + _ < _; exact hu), fun v s' hP m => ?_⟩
  obtain ⟨h', tk, rfl, hk'⟩ := moved_old e rfl m
  have e1 : vs.size - 1 = xs.length := by omega
  rw [e1] at hP
  exact h v h' tk hP hk'
open PySem.W PySem.SeqAt in
theorem call_minD (hc : X.calm = true) (hu : X.A.units + 64 < cLine) : CallR X (.builtin "min") (fun xs H Q => ∃ (a : Addr) (ys : List V) (d : PyData) (ds : List PyData), xs = [.ref a] ∧ SqL X.K H a ys ∧ DpAll X.K H ys (d :: ds) ∧ AlikeAll (d :: ds) ∧ PyData.depthAll (d :: ds) ≤ 60 ∧
    ∀ y, ys[argBest (fun i j => dataLt ((d :: ds).getD i PyData.none) ((d :: ds).getD j PyData.none)) ds.length]? = some y → Q y H) := by
  intro pins s σ H xs us Q I r q
  obtain ⟨a, ys, d, ds, ex, hq, hp, ha, hd, q⟩ := q
  subst ex
  obtain ⟨u, eu, rx⟩ := vals1 r
  subst eu
  cases rx
  obtain ⟨its, rv, pl, hz⟩ := I.list hq
  obtain ⟨as, hr⟩ := Dp.readsAll I (d :: ds) ys its hp rv
  refine min_list_ix (I.ok.hd hc) pl.isList (by simpa using hr) ha (by omega) fun v h' tk hv k => ?_
  generalize argBest (fun i j => dataLt ((d :: ds).getD i PyData.none) ((d :: ds).getD j PyData.none)) ds.length = n at hv q
  have hv : its[n]? = some v := by simpa using hv
  have hn : n < ys.length := by rw [rv.length]; exact (List.getElem?_eq_some_iff.mp hv).1
  obtain ⟨u, hu', ru⟩ := Vals.get rv (List.getElem?_eq_getElem hn)
  rw [hv] at hu'
  cases hu'
  exact ⟨_, H, I.kept (t' := tk) k, ru, q _ (List.getElem?_eq_getElem hn)⟩
end
end PyV
namespace PyV
open PySem PySem.Spec PyProof.Rows L2
/-! ### set(l), l a list of ints; sorted of it -/
section
variable {P : Program} {w : World} {A : Around} {E : Value → Shared → Prop} {s : Shared}
abbrev set0 (w : World) : Obj := { cls := .type "set", dict := none, data := .set #[] 0 (.fresh 0 0 (!w.params.followText "set-order")) }
theorem set_of_lst {l : Addr} {items : Array Value} (ns : List Int) {Q : Value → Shared → Prop} (hh : A.handled = none) (hl : s.heap.IsList l items) (hit : IntsAre items.toList ns) (hb : ns.length + 1 < scanBound)
    (h : ∀ (h' : Heap) (tk c : Nat), SetR w h' s.heap.objs.size (fun j => decide (j ∈ ns)) c → (∀ b o, s.heap.get? b = some o → h'.get? b = some o) → Q (.ref s.heap.objs.size) { s with heap := h', toks := tk }) : wpAny (model P w) A (call (.type "set") [.ref l]) Q E s := by
  have hisz : items.size = ns.length := (Array.length_toList (xs := items)).symm.trans (IntsAre.length hit)
  obtain ⟨c, tl, hmro⟩ := F.called_set.mro
  have hmade := F.called_set.made; have hsub := F.called_set.sub
  refine wpAny_call (codeAny_of_tree ?_); show wpAny _ _ (callAny (.type "set") _) _ _ _
  refine wpAny_pure ⟨Code.quiet_builtin _ (by decide +kernel), codeAny_builtin F.entry_type_call ?_⟩; rw [Around.under_plain (weight_type_call_type "set" [.ref l] []) rfl]
  have h1 := F.called_set.notType; have h2 := F.called_set.canCreate
  have hct := F.typeCall_set_1 (.ref l)
  repeat any_goals first | assumption | wp_step
  refine codeAny_mono (code_set_led1 (.ref l) (E := E) (Q₁ := fun obj s₁ => obj = .ref s.heap.objs.size ∧ s₁ = { s with heap := s.heap.push (set0 w) }) ⟨rfl, rfl⟩) fun r s₁ hr => ?_
  match r, hr with
  | .error e, hr => exact hr
  | .ok .next, hr => exact hr.elim
  | .ok .brk, hr => exact hr.elim
  | .ok .cont, hr => exact hr.elim
  | .ok (.ret obj), hr =>
    obtain ⟨rfl, rfl⟩ := hr
    have hS : (s.heap.push (set0 w)).get? s.heap.objs.size = some (set0 w) := Heap.get?_push_size _ rfl
    have hT : Shared.TypeIs { s with heap := s.heap.push (set0 w) } (.ref s.heap.objs.size) "set" := ⟨_, hS, rfl⟩
    have hli := F.called_set.init.lookup; have hbi := F.called_set.init.bind (.ref s.heap.objs.size)
    repeat any_goals first | assumption | wp_step
    refine codeAny_mono (codeAny_call_builtin (R := wants (fun r s₂ => r = .none ∧ ∃ h' tk c, s₂ = { s with heap := h', toks := tk } ∧ SetR w h' s.heap.objs.size (fun j => decide (j ∈ ns)) c ∧ (∀ b o, s.heap.get? b = some o → h'.get? b = some o)) E) F.called_set.init.plain F.entry_set_init (check_set_init_1 hT ?_)) fun r₂ s₂ hr₂ => ?_
    · obtain ⟨⟨ocls, odict, odata, oslots⟩, hol, hcl, nl, hdl⟩ := hl
      simp only at hcl hdl; subst hcl; subst hdl
      have hol' : (s.heap.push (set0 w)).get? l = some { cls := .type "list", dict := odict, data := .seq items nl, slots := oslots } := Heap.get?_push_of_some _ hol
      have hsls := F.sub_list_set; have hslf := F.sub_list_frozenset
      have hne : (Value.type "list" == Value.type "dict") = false := by decide
      have hl1 : (s.heap.push (set0 w)).IsList l items := ⟨_, hol', rfl, nl, rfl⟩
      unfold Builtin.«set.__init__» noKeywords Builtin.Frozenset.updateFrom; generalize hPI : pyIter = PI
      wp_walk
      subst hPI; refine wpAny_pyIter_list hl1 ?_
      refine wpAny_bind (wpAny_runValue ?_); have hlS : l < s.heap.objs.size := Heap.lt_size hol
      have hh3 : A.in1.in1.in1.handled = none := by simp [hh]
      have hneI : l ≠ (s.heap.push (set0 w)).objs.size := by rw [Heap.size_push]; exact Nat.ne_of_lt (Nat.lt_succ_of_lt hlS)
      have hSf : s.heap.objs.size ∉ [(s.heap.push (set0 w)).objs.size, l] := by
        rw [Heap.size_push]; simp only [List.mem_cons, List.not_mem_nil, or_false, not_or]; exact ⟨Nat.ne_of_lt (Nat.lt_succ_self _), Nat.ne_of_gt hlS⟩
      have hval : ∀ (i : Nat) (v : Value), items[i]? = some v → ∃ k t, ns[i]? = some k ∧ v = .int k t := fun i v hv => by
        have hi : i < ns.length := by rw [← hisz]; exact (Array.getElem?_eq_some_iff.mp hv).1
        obtain ⟨t, e⟩ := IntsAre.int_at hit i v (by rw [Array.getElem?_toList]; exact hv)
        exact ⟨ns[i], t, List.getElem?_eq_getElem hi, by rw [e, List.getD_eq_getElem?_getD, List.getElem?_eq_getElem hi] <;> rfl⟩
      refine set_update_ints ((Walks.list hh3 _ l hneI items).toS) s.heap.objs.size hSf ns hisz hb hval (items.size - 0) 0 _ (by omega) (Nat.zero_le _) ⟨⟨_, Heap.get?_push_size _ rfl, rfl, rfl⟩, (hl1.push _)⟩ ⟨0, Nat.le_refl 0, setR_new_at (Heap.get?_push_of_some _ hS)⟩ fun s' c' hm hc' hS' => ?_
      obtain ⟨h', g2, d', tk', os'⟩ := s'
      obtain rfl : g2 = s.gens := hm.gens
      obtain rfl : d' = s.drawn := hm.drawn
      obtain rfl : os' = s.os := hm.os
      show wpAny _ _ _ _ _ _; refine wpAny_pure ?_; show wpAny _ _ (ret Value.none) _ _ _
      refine wpAny_pure ⟨rfl, h', tk', c', rfl, hS', fun b o e => ?_⟩
      have hb0 : b < s.heap.objs.size := Heap.lt_size e
      have hb2 : b ≠ (s.heap.push (set0 w)).objs.size := by rw [Heap.size_push]; exact Nat.ne_of_lt (Nat.lt_succ_of_lt hb0)
      exact hm.heap b o (by simp only [List.mem_cons, List.not_mem_nil, or_false, not_or]; exact ⟨Nat.ne_of_lt hb0, hb2⟩) (Heap.get?_push_of_some _ (Heap.get?_push_of_some _ e))
    · match r₂, hr₂ with
      | .error e, hr₂ => exact hr₂
      | .ok .next, hr₂ => exact hr₂.elim
      | .ok .brk, hr₂ => exact hr₂.elim
      | .ok .cont, hr₂ => exact hr₂.elim
      | .ok (.ret r), hr₂ =>
        obtain ⟨rfl, h', tk, c', rfl, hS', hk'⟩ := hr₂
        repeat any_goals first | assumption | wp_step
        exact h _ _ _ hS' hk'
end
end PyV
namespace PyV
open PySem PySem.Spec PyProof.Rows L2
/-- the members of a list of ints, rising, each once -/
def insU (x : Int) : List Int → List Int
  | [] => [x]
  | y :: ys => if x < y then x :: y :: ys else if x = y then y :: ys else y :: insU x ys
def sortU : List Int → List Int
  | [] => []
  | x :: xs => insU x (sortU xs)
theorem mem_insU {x z : Int} : ∀ {ys : List Int}, z ∈ insU x ys ↔ z = x ∨ z ∈ ys
  | [] => by simp [insU]
  | y :: ys => by
    unfold insU
    split
    · simp
    · split
      · rename_i h; subst h; simp
      · rw [List.mem_cons, List.mem_cons, mem_insU]
        exact ⟨fun h => h.elim (fun e => .inr (.inl e)) fun h => h.elim .inl fun m => .inr (.inr m), fun h => h.elim (fun e => .inr (.inl e)) fun h => h.elim .inl fun m => .inr (.inr m)⟩
theorem mem_sortU {z : Int} : ∀ {xs : List Int}, z ∈ sortU xs ↔ z ∈ xs
  | [] => Iff.rfl
  | x :: xs => by
    show z ∈ insU x (sortU xs) ↔ _
    rw [mem_insU, mem_sortU, List.mem_cons]
theorem insU_lt {x : Int} : ∀ {ys : List Int}, ys.Pairwise (· < ·) → (insU x ys).Pairwise (· < ·)
  | [], _ => List.pairwise_singleton _ _
  | y :: ys, h => by
    obtain ⟨h1, h2⟩ := List.pairwise_cons.mp h
    unfold insU
    split
    · rename_i hx
      exact List.pairwise_cons.mpr ⟨fun z hz => (List.mem_cons.mp hz).elim (fun e => e ▸ hx) fun m => Int.lt_trans hx (h1 z m), h⟩
    · split
      · exact h
      · rename_i h3 h4
        exact List.pairwise_cons.mpr ⟨fun z hz => (mem_insU.mp hz).elim (fun e => by subst e; omega) (h1 z), insU_lt h2⟩
theorem sortU_lt : ∀ xs : List Int, (sortU xs).Pairwise (· < ·)
  | [] => List.Pairwise.nil
  | x :: xs => insU_lt (sortU_lt xs)
theorem sorted_uniq : ∀ {a b : List Int}, a.Pairwise (· < ·) → b.Pairwise (· < ·) → (∀ z, z ∈ a ↔ z ∈ b) → a = b
  | [], [], _, _, _ => rfl
  | [], y :: ys, _, _, h => absurd ((h y).mpr List.mem_cons_self) List.not_mem_nil
  | x :: xs, [], _, _, h => absurd ((h x).mp List.mem_cons_self) List.not_mem_nil
  | x :: xs, y :: ys, ha, hb, h => by
    obtain ⟨a1, a2⟩ := List.pairwise_cons.mp ha
    obtain ⟨b1, b2⟩ := List.pairwise_cons.mp hb
    have e : x = y := by
      rcases List.mem_cons.mp ((h x).mp List.mem_cons_self) with e | m
      · exact e
      · rcases List.mem_cons.mp ((h y).mpr List.mem_cons_self) with e | m2
        · exact e.symm
        · have := b1 x m; have := a1 y m2; omega
    subst e
    rw [sorted_uniq a2 b2 fun z => ⟨fun m => (List.mem_cons.mp ((h z).mp (List.mem_cons_of_mem _ m))).elim (fun e => by subst e; exact absurd (a1 _ m) (by omega)) id, fun m => (List.mem_cons.mp ((h z).mpr (List.mem_cons_of_mem _ m))).elim (fun e => by subst e; exact absurd (b1 _ m) (by omega)) id⟩]
theorem nodup_le : ∀ {l m : List Int}, l.Nodup → (∀ z ∈ l, z ∈ m) → l.length ≤ m.length
  | [], _, _, _ => Nat.zero_le _
  | x :: l, m, h, g => by
    obtain ⟨h1, h2⟩ := List.nodup_cons.mp h
    have hx := g x List.mem_cons_self
    have ih := nodup_le h2 (m := m.erase x) fun z hz => (List.mem_erase_of_ne (fun e => h1 (by rw [← e]; exact hz))).mpr (g z (List.mem_cons_of_mem _ hz))
    rw [List.length_erase_of_mem hx] at ih
    have := List.length_pos_of_mem hx
    rw [List.length_cons]
    omega
theorem setR_size {w : World} {h : Heap} {a : Addr} {ns : List Int} {c : Nat} (R : SetR w h a (fun j => decide (j ∈ ns)) c) : c = (sortU ns).length := by
  obtain ⟨o, es, ep, t, _, _, _, _, nd, hm, _, _, hn, _⟩ := R
  rw [← hn, ← Array.length_toList, ← List.length_map (f := L2.keyOf)]
  have nd2 : (sortU ns).Nodup := (sortU_lt ns).imp fun h => Int.ne_of_lt h
  exact Nat.le_antisymm (nodup_le nd fun z hz => mem_sortU.mpr (of_decide_eq_true ((hm z).mpr hz))) (nodup_le nd2 fun z hz => (hm z).mp (decide_eq_true (mem_sortU.mp hz)))
end PyV
namespace PyV
open PySem PySem.Spec PyProof.Rows L2 PySem.W
/-! ### sorted(l), l a list of data -/
theorem each_in {ps : List (PyData × V)} : ∀ {us : List Value}, Vals (ps.map (·.2)) us → EachIs (fun u (p : PyData × V) => RelV p.2 u) us ps := by
  induction ps with
  | nil => intro us r; cases r; exact .nil
  | cons p ps ih => intro us r; cases r with | cons r q => exact .cons r (ih q)
theorem each_out {ps : List (PyData × V)} : ∀ {us : List Value}, EachIs (fun u (p : PyData × V) => RelV p.2 u) us ps → Vals (ps.map (·.2)) us := by
  induction ps with
  | nil => intro us r; cases r; exact .nil
  | cons p ps ih => intro us r; cases r with | cons r q => exact .cons r (ih q)
section
variable {X : Cx}
theorem call_sortD (hu : X.A.units + 64 < cLine) : CallR X (.builtin "sorted") (fun xs H Q => ∃ (a : Addr) (ps : List (PyData × V)), xs = [.ref a] ∧ SqL X.K H a (ps.map (·.2)) ∧ DpAll X.K H (ps.map (·.2)) (ps.map (·.1)) ∧ AllAlike (ps.map (·.1)) ∧ Sortable (ps.map (·.1)) ∧ (∀ p ∈ ps, p.1.depth ≤ 60) ∧
    ∀ q, H q = none → Q (.ref q) (upd H q (.lst ((ps.mergeSort (dataLe false (·.1))).map (·.2))))) := by
  intro pins s σ H xs us Q I r q
  obtain ⟨a, ps, ex, hq, hp, ha, hs, hd, q⟩ := q
  subst ex
  obtain ⟨u, eu, rx⟩ := vals1 r
  subst eu
  cases rx
  obtain ⟨its, rv, pl, hz⟩ := I.list hq
  obtain ⟨as, hr⟩ := Dp.readsAll I _ _ its hp rv
  refine PySem.W.sorted_data (enc := fun p : PyData × V => p.1) pl.isList (each_in rv) (PySem.W.readsAll_each _ hr) ha hs (by simpa using hz) (fun p hp => by have := hd p hp; show X.A.units + 2 + p.1.depth < cLine; omega) fun out hl ho => ?_
  obtain ⟨ep, he⟩ := sortedAll_at s.heap its out.toArray
  refine ⟨.ref _, upd H (s.heap.objs.size + 1) (.lst ((ps.mergeSort (dataLe false (·.1))).map (·.2))), I.laid (t' := s.toks) (fun _ _ => sortedAll_old) (Nat.le_succ _) ⟨?_, out, ep, each_out ho, he⟩, rfl, q _ (I.hok.fresh (Nat.le_succ _))⟩
  rw [List.length_map, List.length_mergeSort]
  simpa using hz
end
end PyV
namespace PyV
open PySem L2
/-! ### the terms -/
inductive Blt where
  | len | list | tuple | int | str | min | max | sorted | all | isi | dict | sset
  deriving DecidableEq
mutual
inductive IE where
  | v (i : Nat) | kn | kb (b : Bool) | ki (n : Int) | ks (x : Str) | ty (x : String) | gl (x : Str) | no
  | bin (op : Operator) (a b : IE) | neg (a : IE) | nt (a : IE)
  | cmp (op : CmpOp) (a b : IE) | chn (op op2 : CmpOp) (a b c : IE)
  | bop (op : BoolOp) (es : IEs)
  | ite (c a b : IE)
  | tup (es : IEs) | lst (es : IEs) | dct (es : IEs)
  | ix (a i : IE) | sl (a lo hi : IE)
  | call (f : Nat) (es : IEs) | bl (b : Blt) (es : IEs) | get2 (o a b : IE)
  | sst (e : IE) | callv (i : Nat) (es : IEs)      -- sorted(set(e)), a call of what a name holds
  | lrg (a b : IE) | trg (a b : IE) | mn (e : IE)      -- list(range(a, b)), tuple(range(a, b)), min(e)
  | lc (elt : IE) (ts : List Nat) (it : IT) (cd : IE)
inductive IEs where
  | nil | cons (e : IE) (es : IEs)
inductive IT where
  | sq (e : IE) | r1 (a : IE) | r2 (a b : IE) | zp (a b : IE) | en (a : IE)
end
mutual
inductive IS where
  | set (i : Nat) (mu : Bool) (e : IE)
  | unp (is : List Nat) (e : IE)
  | app (i : Nat) (e : IE)
  | sub (i : Nat) (k e : IE)
  | clr (i : Nat)
  | exp (e : IE)
  | ret (e : IE) | retN
  | iff (c : IE) (t e : ISs)
  | forr (ts : List Nat) (it : IT) (body : ISs)
  | forIf (ts : List Nat) (it : IT) (c e : IE)
  | whl (fuel : Nat) (c : IE) (body : ISs)
  | rai (c : Str)
  | tryT (body : ISs)
  | pas | brk | cnt
inductive ISs where
  | nil | cons (s : IS) (ss : ISs)
end
/-! ### operations on data -/
def lim : Nat := 1000000
def Kd.new : Kd → Bool
  | .own => true
  | .top n => n
  | .pl n => n
def Kd.isOwn : Kd → Bool
  | .own => true
  | _ => false
abbrev R := Kd × D
def mkR (n : Bool) : D → R
  | .lst xs => (.top (n || pureL xs), .lst xs)
  | .dct xs => (.top n, .dct xs)
  | .tup xs => (.pl n, .tup xs)
  | .prs xs => (.pl n, .prs xs)
  | .frz xs => (.pl n, .frz xs)
  | .non => (.pl true, .non)
  | .bl b => (.pl true, .bl b)
  | .int i => (.pl true, .int i)
  | .str x => (.pl true, .str x)
  | .opq v => (.pl true, .opq v)
def elR (n : Bool) : D → R
  | .lst xs => (.pl n, .lst xs)
  | .dct xs => (.pl n, .dct xs)
  | .tup xs => (.pl n, .tup xs)
  | .prs xs => (.pl n, .prs xs)
  | .frz xs => (.pl n, .frz xs)
  | .non => (.pl true, .non)
  | .bl b => (.pl true, .bl b)
  | .int i => (.pl true, .int i)
  | .str x => (.pl true, .str x)
  | .opq v => (.pl true, .opq v)
def guard' {α : Type} (p : Prop) [Decidable p] (x : M α) : M α := if p then x else .stuck
def MulOk (a b : Int) : Prop := (-(2 ^ 64) < a ∧ a < 2 ^ 64) ∨ (-(2 ^ 64) < b ∧ b < 2 ^ 64)
instance (a b : Int) : Decidable (MulOk a b) := by unfold MulOk; infer_instance
def dBin : Operator → D → D → M D
  | .Add, .int a, .int b => .ok (.int (a + b))
  | .Add, .lst a, .lst b => guard' (a.length + b.length ≤ lim) (.ok (.lst (a ++ b)))
  | .Add, .tup a, .tup b => guard' (a.length + b.length ≤ lim) (.ok (.tup (a ++ b)))
  | .Add, .str a, .str b => guard' (a.length + b.length ≤ lim) (.ok (.str (a ++ b)))
  | .Sub, .int a, .int b => .ok (.int (a - b))
  | .Mult, .int a, .int b => guard' (MulOk a b) (.ok (.int (a * b)))
  | .Mult, .lst a, .int b => guard' (-(2 ^ 63) ≤ b ∧ b < 2 ^ 63 ∧ a.length * b.toNat ≤ lim) (.ok (.lst (List.replicate b.toNat a).flatten))
  | .FloorDiv, .int a, .int b => guard' (0 < b ∧ b < 1073741824) (.ok (.int (a / b)))
  | .Mod, .int a, .int b => guard' (0 < b) (.ok (.int (a % b)))
  | .Pow, .int a, .int b => guard' (0 ≤ b ∧ b ≤ 1000000 ∧ a.natAbs < 2 ^ 64) (.ok (.int (a ^ b.toNat)))
  | _, _, _ => .stuck
mutual
def py : D → PyData
  | .non => .none
  | .bl b => .bool b
  | .int i => .int i
  | .str x => .str x
  | .opq _ => .none
  | .prs _ => .none
  | .tup xs => .tuple (pyL xs)
  | .lst xs => .list (pyL xs)
  | .frz xs => .list (pyL xs)
  | .dct _ => .none
def pyL : List D → List PyData
  | [] => []
  | x :: xs => py x :: pyL xs
end
mutual
def pyOk : D → Bool
  | .opq _ => false
  | .prs _ => false
  | .dct _ => false
  | .tup xs => pyOkL xs
  | .lst xs => pyOkL xs
  | .frz xs => pyOkL xs
  | _ => true
def pyOkL : List D → Bool
  | [] => true
  | x :: xs => pyOk x && pyOkL xs
end
def eqOk (d : D) : Bool := pyOk d && SeqAt.shaped (py d)
def flatD : D → Bool
  | .non => true
  | .bl _ => true
  | .int _ => true
  | .str _ => true
  | _ => false
def flatVD : D → V
  | .bl b => .bl b
  | .int i => .int i
  | .str x => .str x
  | _ => .non
def dIn (x : D) (ys : List D) : Bool := ys.any fun y => eqV (flatVD y) (flatVD x)
def keyD : D → Option Key
  | .int i => some (.inl i)
  | .str x => some (.inr x)
  | _ => none
def lookD (kvs : List (Key × D)) (k : Key) : Option D := (kvs.find? fun kv => decide (kv.1 = k)).map (·.2)
def putD (kvs : List (Key × D)) (k : Key) (v : D) : List (Key × D) :=
  if (kvs.any fun kv => decide (kv.1 = k)) then kvs.map (fun kv => if kv.1 = k then (kv.1, v) else kv) else kvs ++ [(k, v)]
def dInDeep (x : D) (ys : List D) : Bool := (pyL ys).any fun z => PyData.eqv z (py x)
def dInAny (neg : Bool) (x y : D) : M D := match y with
  | .lst ys => if flatD x = true ∧ ys.all flatD = true then .ok (.bl (if neg then !dIn x ys else dIn x ys)) else guard' (eqOk x = true ∧ eqOk (.lst ys) = true) (.ok (.bl (if neg then !dInDeep x ys else dInDeep x ys)))
  | .tup ys => guard' (flatD x = true ∧ ys.all flatD = true) (.ok (.bl (if neg then !dIn x ys else dIn x ys)))
  | .dct kvs => match keyD x with
    | some k => .ok (.bl (if neg then !(lookD kvs k).isSome else (lookD kvs k).isSome))
    | none => .stuck
  | _ => .stuck
def isNon : D → Bool
  | .non => true
  | _ => false
def isOpq : D → Bool
  | .opq _ => true
  | _ => false
def flatEq : D → D → Bool
  | .int a, .int b => decide (a = b)
  | .str a, .str b => decide (a = b)
  | .bl a, .bl b => decide (a = b)
  | .non, .non => true
  | _, _ => false
/-- dicts with the same keys, the same flat values -/
def dEqK (a b : List (Key × D)) : Bool := decide (a.length = b.length) && a.all fun p => match lookD b p.1 with
  | some d => flatEq p.2 d
  | none => false
def dCmp : CmpOp → D → D → M D
  | .Eq, .dct a, .dct b => guard' (dEqK a b = true) (.ok (.bl true))
  | .NotEq, .dct a, .dct b => guard' (dEqK a b = true) (.ok (.bl false))
  | .Eq, a, b => guard' (eqOk a = true ∧ eqOk b = true) (.ok (.bl (PyData.eqv (py a) (py b))))
  | .NotEq, a, b => guard' (eqOk a = true ∧ eqOk b = true) (.ok (.bl (!PyData.eqv (py a) (py b))))
  | .Lt, .int a, .int b => .ok (.bl (decide (a < b)))
  | .LtE, .int a, .int b => .ok (.bl (decide (a ≤ b)))
  | .Gt, .int a, .int b => .ok (.bl (decide (b < a)))
  | .GtE, .int a, .int b => .ok (.bl (decide (b ≤ a)))
  | .In, a, b => dInAny false a b
  | .NotIn, a, b => dInAny true a b
  | .Is, a, .non => guard' (isOpq a = false) (.ok (.bl (isNon a)))
  | .IsNot, a, .non => guard' (isOpq a = false) (.ok (.bl (!isNon a)))
  | _, _, _ => .stuck
def ofO {α : Type} : Option α → M α
  | some a => .ok a
  | none => .stuck
def dIx : D → D → M D
  | .lst xs, .int i => ofO (atI xs i)
  | .frz xs, .int i => ofO (atI xs i)
  | .tup xs, .int i => ofO (atI xs i)
  | .str x, .int i => guard' (x.length ≤ lim) (ofO ((atI x.cps.toList i).map fun c => .str ⟨#[c]⟩))
  | .dct kvs, k => match keyD k with
    | some k => ofO (lookD kvs k)
    | none => .stuck
  | _, _ => .stuck
def cutD (xs : List D) (lo hi : Option Int) : List D := (xs.drop (HT.sIx xs.length 0 lo)).take (HT.sIx xs.length xs.length hi - HT.sIx xs.length 0 lo)
def dSl : D → Option Int → Option Int → M D
  | .lst xs, lo, hi => .ok (.lst (cutD xs lo hi))
  | .frz xs, lo, hi => .ok (.lst (cutD xs lo hi))
  | .tup xs, lo, hi => .ok (.tup (cutD xs lo hi))
  | .str x, lo, hi => guard' (x.length ≤ lim) (.ok (.str (cutS x lo hi)))
  | _, _, _ => .stuck
def itemsOf : D → Option (List D)
  | .lst xs => some xs
  | .frz xs => some xs
  | .tup xs => some xs
  | _ => none
def rngD (a b : Int) : List D := (List.range (b - a).toNat).map fun i => D.int (a + (i : Nat))
def enumD (xs : List D) : List D := xs.zipIdx.map fun p => D.prs [.int (p.2 : Nat), p.1]
def zipD (xs ys : List D) : List D := (xs.zip ys).map fun p => D.prs [p.1, p.2]
def blsD : List D → Option (List Bool)
  | [] => some []
  | .bl b :: ds => (blsD ds).map (b :: ·)
  | _ => none
/-- pairs that stand as tuples -/
def pairsT : List D → Option (List (Key × D))
  | [] => some []
  | .tup [k, v] :: ds => match keyD k, pairsT ds with
    | some k, some ps => some ((k, v) :: ps)
    | _, _ => none
  | _ => none
def mergeD (kvs more : List (Key × D)) : List (Key × D) := more.foldl (fun acc kv => putD acc kv.1 kv.2) kvs
/-- the pairs of a display -/
def pairsD : List D → Option (List (Key × D))
  | [] => some []
  | [_] => none
  | k :: v :: ds => match keyD k, pairsD ds with
    | some k, some ps => some ((k, v) :: ps)
    | _, _ => none
/-- what min may look at -/
def minOk (ds : List D) : Bool := pyOkL ds && (ds.all fun a => ds.all fun b => PySem.W.alike (py a) (py b)) && (ds.all fun a => !isNon a) && decide (PyData.depthAll (pyL ds) ≤ 60)
def dLtD (a b : D) : Bool := PySem.W.dataLt (py a) (py b)
def dMin : D → M D
  | .lst (x :: xs) => guard' (minOk (x :: xs) = true) (.ok (xs.foldl (fun a y => if dLtD y a then y else a) x))
  | _ => .stuck
/-- isinstance(x, a built-in type) -/
def tyName : D → Option String
  | .non => some "NoneType"
  | .bl _ => some "bool"
  | .int _ => some "int"
  | .str _ => some "str"
  | .tup _ => some "tuple"
  | .lst _ => some "list"
  | .dct _ => some "dict"
  | _ => none
def dIsi (x : D) (t : String) : M D := match tyName x with
  | some a => match kitB a t with
    | some b => .ok (.bl b)
    | none => .stuck
  | none => .stuck
def dDict : D → M D
  | .dct kvs => .ok (.dct kvs)
  | .tup xs => match pairsT xs with
    | some kvs => .ok (.dct (mergeD [] kvs))
    | none => .stuck
  | _ => .stuck
def intsD : List D → Option (List Int)
  | [] => some []
  | .int i :: ds => (intsD ds).map (i :: ·)
  | _ => none
def dSstL (xs : List D) : M D := match intsD xs with
  | some ns => guard' (ns.length < 4000 ∧ (sortU ns).length < 64) (.ok (.lst ((sortU ns).map .int)))
  | none => .stuck
def dSst : D → M D
  | .lst xs => dSstL xs
  | .tup xs => dSstL xs
  | _ => .stuck
/-- what sorted may look at -/
def isTupNE : D → Bool
  | .tup (_ :: _) => true
  | _ => false
def isTupD : D → Bool
  | .tup _ => true
  | _ => false
def srtOk (ds : List D) : Bool := pyOkL ds && (ds.all fun a => ds.all fun b => PySem.W.alike (py a) (py b)) && (ds.all isTupNE || ds.all fun a => !isNon a && !isTupD a) && ds.all fun a => decide ((py a).depth ≤ 60)
def sortD (ds : List D) : List D := ds.mergeSort fun a b => !dLtD b a
def dMaxL : List D → M D := fun xs => match intsD xs with
  | some (i :: is) => .ok (.int (is.foldl (fun a b => if a < b then b else a) i))
  | _ => .stuck
def cloN : Nat := 999999
def dBlt : Blt → List D → M D
  | .len, [.lst xs] => .ok (.int xs.length)
  | .len, [.tup xs] => .ok (.int xs.length)
  | .len, [.frz xs] => .ok (.int xs.length)
  | .len, [.str x] => guard' (x.length ≤ lim) (.ok (.int x.length))
  | .list, [.lst xs] => .ok (.lst xs)
  | .list, [.tup xs] => .ok (.lst xs)
  | .list, [.frz xs] => .ok (.lst xs)
  | .tuple, [.lst xs] => .ok (.tup xs)
  | .tuple, [.tup xs] => .ok (.tup xs)
  | .tuple, [.frz xs] => .ok (.tup xs)
  | .int, [.int i] => .ok (.int i)
  | .int, [.bl b] => .ok (.int (if b then 1 else 0))
  | .min, [.int a, .int b] => .ok (.int (if b < a then b else a))
  | .max, [.int a, .int b] => .ok (.int (if b > a then b else a))
  | .isi, [x, .opq (.ty t)] => dIsi x t
  | .all, [.lst xs] => match blsD xs with
    | some bs => .ok (.bl (bs.all id))
    | none => .stuck
  | .dict, [x] => dDict x
  | .sorted, [.lst xs] => guard' (srtOk xs = true) (.ok (.lst (sortD xs)))
  | .max, [.lst xs] => dMaxL xs
  | _, _ => .stuck
/-! ### what a term gives -/
structure Sig where
  call : Nat → List D → M D
  glob : Str → Option D
  rai : Str → Bool
def asB : R → M Bool
  | (_, .bl b) => .ok b
  | _ => .stuck
def tgOf (k : Kd) : Tg := if k.new then .new else .old
def setE (ρ : Env) (i : Nat) (n : Bool) (x : D) : Env := ρ.set i (some (tgOf (elR n x).1, x))
def bindTs (n : Bool) : List Nat → List D → Env → Env
  | i :: is, x :: xs, ρ => bindTs n is xs (setE ρ i n x)
  | _, _, ρ => ρ
def bindTup (n : Bool) (x : D) (ρ : Env) (is : List Nat) : M Env := match x with
  | .tup xs => guard' (xs.length = is.length) (.ok (bindTs n is xs ρ))
  | .prs xs => guard' (xs.length = is.length) (.ok (bindTs n is xs ρ))
  | _ => .stuck
def bindT (n : Bool) (x : D) (ρ : Env) : List Nat → M Env
  | [i] => .ok (setE ρ i n x)
  | is => bindTup n x ρ is
def wipeE (ρ : Env) : List Nat → Env
  | [] => ρ
  | v :: vs => (wipeE ρ vs).set v none
def noOwnAt (ρ : Env) (ts : List Nat) : Bool := ts.all fun i => match ρ[i]? with
  | some (some (.own, _)) => false
  | _ => true
def consO : Option R → List R → List R
  | some r, rs => r :: rs
  | none, rs => rs
def compM (f : D → M (Option R)) : List D → M (List R)
  | [] => .ok []
  | x :: xs => (f x).bind fun r => (compM f xs).bind fun rs => .ok (consO r rs)
def noEx {α : Type} : M α → M α
  | .ok a => .ok a
  | _ => .stuck
def allNew (rs : List R) : Bool := rs.all fun r => r.1.new
def noOwn (rs : List R) : Bool := rs.all fun r => !r.1.isOwn
def mkDct (rs : List R) : M R := match pairsD (rs.map (·.2)) with
  | some kvs => guard' (noOwn rs = true ∧ kvs.length ≤ 15) (.ok (.top (allNew rs), .dct (mergeD [] kvs)))
  | none => .stuck
def asDct : R → M (List (Key × D))
  | (_, .dct kvs) => .ok kvs
  | _ => .stuck
def getD (k : Kd) (kvs : List (Key × D)) (r z : R) : M R := match keyD r.2 with
    | some key => guard' (z.1.isOwn = false) (.ok (elR (k.new && z.1.new) ((lookD kvs key).getD z.2)))
    | none => .stuck
def isNo : IE → Bool
  | .no => true
  | _ => false
def asI : R → M (Option Int)
  | (_, .int i) => .ok (some i)
  | _ => .stuck
def enumF (x : R) : M (Kd × List D) := match x.2 with
  | .lst xs => .ok (x.1, enumD xs)
  | .frz xs => .ok (x.1, enumD xs)
  | _ => .stuck
def zipF (x y : R) : M (Kd × List D) := match x.2, y.2 with
  | .lst xs, .lst ys => guard' (x.1.isOwn = false ∧ y.1.isOwn = false) (.ok (.pl (x.1.new && y.1.new), zipD xs ys))
  | .tup xs, .tup ys => guard' (x.1.isOwn = false ∧ y.1.isOwn = false) (.ok (.pl (x.1.new && y.1.new), zipD xs ys))
  | _, _ => .stuck
mutual
def evE (S : Sig) (e : IE) (ρ : Env) : M R := match e, ρ with
  | .v i, ρ => match ρ[i]? with
    | some (some (.own, d)) => .ok (.own, d)
    | some (some (.new, d)) => .ok (.pl true, d)
    | some (some (.old, d)) => .ok (.pl false, d)
    | _ => .stuck
  | .kn, _ => .ok (.pl true, .non)
  | .kb b, _ => .ok (.pl true, .bl b)
  | .ki n, _ => .ok (.pl true, .int n)
  | .ks x, _ => .ok (.pl true, .str x)
  | .ty x, _ => .ok (.pl true, .opq (.ty x))
  | .gl x, _ => match S.glob x with
    | some d => .ok (.pl true, d)
    | none => .stuck
  | .no, _ => .stuck
  | .bin op a b, ρ => (evE S a ρ).bind fun x => (evE S b ρ).bind fun y => (dBin op x.2 y.2).bind fun d => .ok (mkR (x.1.new && y.1.new) d)
  | .neg a, ρ => (evE S a ρ).bind fun x => match x.2 with
    | .int i => .ok (.pl true, .int (-i))
    | _ => .stuck
  | .nt a, ρ => (evE S a ρ).bind fun x => (asB x).bind fun b => .ok (.pl true, .bl (!b))
  | .cmp op a b, ρ => (evE S a ρ).bind fun x => (evE S b ρ).bind fun y => (dCmp op x.2 y.2).bind fun d => .ok (.pl true, d)
  | .chn op op2 a b c, ρ => (evE S a ρ).bind fun x => (evE S b ρ).bind fun y => (dCmp op x.2 y.2).bind fun d => match d with
    | .bl true => (evE S c ρ).bind fun z => (dCmp op2 y.2 z.2).bind fun d => .ok (.pl true, d)
    | .bl false => .ok (.pl true, .bl false)
    | _ => .stuck
  | .bop op es, ρ => evB S op es ρ
  | .ite c a b, ρ => (evE S c ρ).bind fun x => (asB x).bind fun t => if t then evE S a ρ else evE S b ρ
  | .tup es, ρ => (evEs S es ρ).bind fun rs => guard' (noOwn rs = true ∧ rs.length ≤ lim) (.ok (.pl (allNew rs), .tup (rs.map (·.2))))
  | .lst es, ρ => (evEs S es ρ).bind fun rs => guard' (noOwn rs = true ∧ rs.length ≤ lim) (.ok (.top (allNew rs), .lst (rs.map (·.2))))
  | .dct es, ρ => (evEs S es ρ).bind mkDct
  | .ix a i, ρ => (evE S a ρ).bind fun x => (evE S i ρ).bind fun y => (dIx x.2 y.2).bind fun d => .ok (elR x.1.new d)
  | .sl a lo hi, ρ => (evE S a ρ).bind fun x => (if isNo lo then .ok none else (evE S lo ρ).bind asI).bind fun l => (if isNo hi then .ok none else (evE S hi ρ).bind asI).bind fun h => (dSl x.2 l h).bind fun d => .ok (mkR x.1.new d)
  | .call f es, ρ => (evEs S es ρ).bind fun rs => (S.call f (rs.map (·.2))).bind fun d => .ok (mkR true d)
  | .bl b es, ρ => (evEs S es ρ).bind fun rs => (dBlt b (rs.map (·.2))).bind fun d => .ok (mkR (allNew rs) d)
  | .get2 o a b, ρ => (evE S o ρ).bind fun x => (asDct x).bind fun kvs => (evE S a ρ).bind fun r => (evE S b ρ).bind fun z => getD x.1 kvs r z
  | .lrg a b, ρ => (evE S a ρ).bind fun x => (evE S b ρ).bind fun y => match x.2, y.2 with
    | .int i, .int j => guard' (-(2 ^ 62) ≤ i ∧ i < 2 ^ 62 ∧ -(2 ^ 62) ≤ j ∧ j < 2 ^ 62 ∧ (j - i).toNat ≤ lim) (.ok (.top true, .lst (rngD i j)))
    | _, _ => .stuck
  | .trg a b, ρ => (evE S a ρ).bind fun x => (evE S b ρ).bind fun y => match x.2, y.2 with
    | .int i, .int j => guard' (-(2 ^ 62) ≤ i ∧ i < 2 ^ 62 ∧ -(2 ^ 62) ≤ j ∧ j < 2 ^ 62 ∧ (j - i).toNat ≤ lim) (.ok (.pl true, .tup (rngD i j)))
    | _, _ => .stuck
  | .mn e, ρ => (evE S e ρ).bind fun x => (dMin x.2).bind fun d => .ok (elR x.1.new d)
  | .sst e, ρ => (evE S e ρ).bind fun x => (dSst x.2).bind fun d => .ok (.top true, d)
  | .callv i es, ρ => match ρ[i]? with
    | some (some (_, .opq v)) => (noEx (evEs S es ρ)).bind fun rs => (S.call cloN (.opq v :: rs.map (·.2))).bind fun d => .ok (mkR true d)
    | _ => .stuck
  | .lc elt ts it cd, ρ => (evIt S it ρ).bind fun ki => (noEx (compM (fun x => (bindT ki.1.new x (wipeE ρ ts) ts).bind fun ρ' => (if isNo cd then .ok true else (evE S cd ρ').bind asB).bind fun b =>
      if b then (evE S elt ρ').bind fun r => .ok (some r) else .ok none) ki.2)).bind fun rs => guard' (noOwnAt ρ ts = true ∧ noOwn rs = true ∧ ki.2.length < lim) (.ok (.top (allNew rs), .lst (rs.map (·.2))))
termination_by structural e
def evEs (S : Sig) (e : IEs) (ρ : Env) : M (List R) := match e, ρ with
  | .nil, _ => .ok []
  | .cons e es, ρ => (evE S e ρ).bind fun r => (evEs S es ρ).bind fun rs => .ok (r :: rs)
termination_by structural e
def evB (S : Sig) (op : BoolOp) (e : IEs) (ρ : Env) : M R := match e, ρ with
  | .nil, _ => .stuck
  | .cons e .nil, ρ => evE S e ρ
  | .cons e (.cons e2 es), ρ => (evE S e ρ).bind fun x => (asB x).bind fun b => match op with
    | .And => if b then evB S op (.cons e2 es) ρ else .ok (.pl true, .bl false)
    | .Or => if b then .ok (.pl true, .bl true) else evB S op (.cons e2 es) ρ
termination_by structural e
def evIt (S : Sig) (e : IT) (ρ : Env) : M (Kd × List D) := match e, ρ with
  | .sq e, ρ => (evE S e ρ).bind fun x => match itemsOf x.2 with
    | some xs => .ok (x.1, xs)
    | none => .stuck
  | .r1 a, ρ => (evE S a ρ).bind fun x => match x.2 with
    | .int j => guard' (-(2 ^ 62) ≤ j ∧ j < 2 ^ 62) (.ok (.pl true, rngD 0 j))
    | _ => .stuck
  | .r2 a b, ρ => (evE S a ρ).bind fun x => (evE S b ρ).bind fun y => match x.2, y.2 with
    | .int i, .int j => guard' (-(2 ^ 62) ≤ i ∧ i < 2 ^ 62 ∧ -(2 ^ 62) ≤ j ∧ j < 2 ^ 62) (.ok (.pl true, rngD i j))
    | _, _ => .stuck
  | .zp a b, ρ => (evE S a ρ).bind fun x => (evE S b ρ).bind fun y => zipF x y
  | .en a, ρ => (evE S a ρ).bind enumF
termination_by structural e
end
/-! ### statements -/
inductive Out where
  | nx (ρ : Env) | rt (d : D) | bk (ρ : Env) | ct (ρ : Env)
def pureE : D → Bool
  | .lst xs => pureL xs
  | .dct kvs => pureL (kvs.map (·.2))
  | _ => false
def freshR (r : R) : Bool := match r.1 with
  | .own => true
  | k => k.new || pureD r.2
/-- the entry of a name that is given r -/
def entR (mu : Bool) (r : R) : M (Option (Tg × D)) := match r.1 with
  | .own => .stuck
  | .top n => .ok (some (if mu && (n || pureE r.2) then .own else if n then .new else .old, r.2))
  | .pl n => .ok (some (if n then .new else .old, r.2))
def loopM (f : Env → D → M Out) : List D → Env → M Out
  | [], ρ => .ok (.nx ρ)
  | x :: xs, ρ => (f ρ x).bind fun o => match o with
    | .nx ρ' => loopM f xs ρ'
    | .ct ρ' => loopM f xs ρ'
    | .bk ρ' => .ok (.nx ρ')
    | .rt d => .ok (.rt d)
def whileM (c : Env → M Bool) (f : Env → M Out) : Nat → Env → M Out
  | 0, _ => .stuck
  | n + 1, ρ => (c ρ).bind fun b => if b then (f ρ).bind fun o => match o with
    | .nx ρ' => whileM c f n ρ'
    | .ct ρ' => whileM c f n ρ'
    | .bk ρ' => .ok (.nx ρ')
    | .rt d => .ok (.rt d)
    else .ok (.nx ρ)
def asOwn (ρ : Env) (i : Nat) : M D := match ρ[i]? with
  | some (some (.own, d)) => .ok d
  | _ => .stuck
def asOwnL (ρ : Env) (i : Nat) : M (List D) := match ρ[i]? with
  | some (some (.own, .lst xs)) => .ok xs
  | _ => .stuck
def isV : IE → Option Nat
  | .v j => some j
  | _ => none
def subD (o k v : D) : M D := match o with
  | .lst xs => match k with
    | .int i => match ixN xs.length i with
      | some j => .ok (.lst (xs.set j v))
      | none => .stuck
    | _ => .stuck
  | .dct kvs => match keyD k with
    | some k => guard' (kvs.length < lim) (.ok (.dct (putD kvs k v)))
    | none => .stuck
  | _ => .stuck
def tupOf (x : D) : Option (List D) := match x with
  | .tup xs => some xs
  | _ => none
mutual
def evS (S : Sig) (s : IS) (ρ : Env) : M Out := match s with
  | .set i mu e => match isV e with
    | some j => (evE S e ρ).bind fun r => if r.1.isOwn then .ok (.nx ((ρ.set j (some (.new, r.2))).set i (some (.new, r.2)))) else (entR mu r).bind fun t => .ok (.nx (ρ.set i t))
    | none => (evE S e ρ).bind fun r => (entR mu r).bind fun t => .ok (.nx (ρ.set i t))
  | .unp is e => (evE S e ρ).bind fun r => match tupOf r.2 with
    | some xs => guard' (xs.length = is.length) (.ok (.nx (bindTs r.1.new is xs ρ)))
    | none => .stuck
  | .app i e => (asOwnL ρ i).bind fun xs => (evE S e ρ).bind fun r => guard' (r.1.isOwn = false ∧ (r.1.new || pureD r.2) = true ∧ xs.length < lim) (.ok (.nx (ρ.set i (some (.own, .lst (xs ++ [r.2]))))))
  | .sub i k e => (asOwn ρ i).bind fun o => (evE S e ρ).bind fun r => (evE S k ρ).bind fun kk => guard' (r.1.isOwn = false ∧ (r.1.new || pureD r.2) = true) ((subD o kk.2 r.2).bind fun o' => .ok (.nx (ρ.set i (some (.own, o')))))
  | .clr i => (asOwnL ρ i).bind fun _ => .ok (.nx (ρ.set i (some (.own, .lst []))))
  | .exp e => (evE S e ρ).bind fun _ => .ok (.nx ρ)
  | .ret e => (evE S e ρ).bind fun r => guard' (freshR r = true) (.ok (.rt r.2))
  | .retN => .ok (.rt .non)
  | .iff c t e => (evE S c ρ).bind fun x => (asB x).bind fun b => if b then evSs S t ρ else evSs S e ρ
  | .forr ts it body => (evIt S it ρ).bind fun ki => guard' (ki.1.isOwn = false) (loopM (fun ρ x => (bindT ki.1.new x ρ ts).bind fun ρ' => evSs S body ρ') ki.2 ρ)
  | .forIf ts it c e => (evIt S it ρ).bind fun ki => loopM (fun ρ x => (bindT ki.1.new x ρ ts).bind fun ρ' => (evE S c ρ').bind fun y => (asB y).bind fun b => if b then (evE S e ρ').bind fun r => guard' (freshR r = true) (.ok (.rt r.2)) else .ok (.nx ρ')) ki.2 ρ
  | .whl n c body => whileM (fun ρ => (evE S c ρ).bind asB) (fun ρ => evSs S body ρ) n ρ
  | .rai c => if S.rai c then .ex c else .stuck
  | .tryT body => noEx (evSs S body ρ)
  | .pas => .ok (.nx ρ)
  | .brk => .ok (.bk ρ)
  | .cnt => .ok (.ct ρ)
termination_by structural s
def evSs (S : Sig) (s : ISs) (ρ : Env) : M Out := match s with
  | .nil => .ok (.nx ρ)
  | .cons s ss => (evS S s ρ).bind fun o => match o with
    | .nx ρ' => evSs S ss ρ'
    | o => .ok o
termination_by structural s
end
/-- a def: its parameters' number, its slots, its body -/
structure Fn where
  par : Nat
  slots : Nat
  body : ISs
def env0 (slots : Nat) (ds : List D) : Env := ds.map (fun d => some (Tg.old, d)) ++ List.replicate (slots - ds.length) none
def outD : Out → M D
  | .rt d => .ok d
  | .nx _ => .ok .non
  | _ => .stuck
def runB (S : Sig) (f : Fn) (ds : List D) : M D := guard' (ds.length = f.par) ((evSs S f.body (env0 f.slots ds)).bind outD)
/-- what the def of that number gives, the calls being at most so deep -/
def run (T : Nat → Option Fn) (G : Str → Option D) (Z : Str → Bool) : Nat → Nat → List D → M D
  | 0, _, _ => .stuck
  | k + 1, f, ds => match T f with
    | some fn => runB ⟨run T G Z k, G, Z⟩ fn ds
    | none => .stuck
/-! ### which piece of the text a term stands for -/
def builtinNames : List Str := ["len", "list", "tuple", "int", "str", "min", "max", "sorted", "all", "isinstance", "dict", "range", "set", "zip", "enumerate", "bool"]
def visB (sc : Scope) (x : Str) : Bool := match sc.names.lookup x with
  | some .local => true
  | some .cell => true
  | some .free => true
  | _ => false
def locB (sc : Scope) (x : Str) : Bool := match sc.names.lookup x with
  | some .local => true
  | some .cell => true
  | _ => false
def onlyLoc (sc : Scope) (x : Str) : Bool := match sc.names.lookup x with
  | some .local => true
  | _ => false
/-- a name that may be stored to: a local of the block; a cell of a def's own frame -/
def setB (sc : Scope) (x : Str) : Bool := match sc.names.lookup x with
  | some .local => true
  | some .cell => (sc.names.lookup (".0" : Str)).isNone
  | _ => false
def glB (sc : Scope) (x : Str) : Bool := match sc.names.lookup x with
  | some .globalImplicit => !(x == ("__debug__" : Str))
  | _ => false
def Blt.name : Blt → Str
  | .len => "len" | .list => "list" | .tuple => "tuple" | .int => "int" | .str => "str" | .min => "min" | .max => "max" | .sorted => "sorted" | .all => "all" | .isi => "isinstance" | .dict => "dict" | .sset => "sorted"
def nameOk (N : List Str) (sc : Scope) (i : Nat) (x : Str) : Bool := decide (N[i]? = some x) && visB sc x && !(x == ("__debug__" : Str)) && !(x == ("__classdict__" : Str))
def tgtOk (N : List Str) (sc : Scope) : List Nat → List Expr → Bool
  | [], [] => true
  | i :: is, .Name x _ :: es => decide (N[i]? = some x) && setB sc x && tgtOk N sc is es
  | _, _ => false
def tgOk (N : List Str) (sc : Scope) (ts : List Nat) (tg : Expr) : Bool := match ts, tg with
  | [i], .Name x _ => decide (N[i]? = some x) && setB sc x
  | [_], _ => false
  | is, .Tuple es _ _ => tgtOk N sc is es
  | _, _ => false
def ownOf (N : List Str) (ts : List Nat) : List (Str × Nat) := ts.map fun i => (N.getD i "", i)
mutual
def chkE (N : List Str) (sc : Scope) (nm : List Str) (t : IE) (e : Expr) : Bool := match t with
  | .v i => match e with
    | .Name x _ => nameOk N sc i x
    | _ => false
  | .kn => match e with
    | .Constant .none _ _ => true
    | _ => false
  | .kb b => match e with
    | .Constant (.bool c) _ _ => b == c
    | _ => false
  | .ki n => match e with
    | .Constant (.int m) _ _ => n == m
    | _ => false
  | .ks x => match e with
    | .Constant (.str y) _ _ => decide (x = y)
    | _ => false
  | .ty n => match e with
    | .Name x _ => glB sc x && decide (x ∈ builtinNames) && decide (bootBuiltins x = some (.type n))
    | _ => false
  | .gl x => match e with
    | .Name y _ => decide (x = y) && glB sc x
    | _ => false
  | .no => false
  | .bin op a b => match e with
    | .BinOp ea o eb _ => decide (o = op) && chkE N sc nm a ea && chkE N sc nm b eb
    | _ => false
  | .neg a => match e with
    | .UnaryOp .USub ea _ => chkE N sc nm a ea
    | _ => false
  | .nt a => match e with
    | .UnaryOp .Not ea _ => chkE N sc nm a ea
    | _ => false
  | .cmp op a b => match e with
    | .Compare ea [o] [eb] _ => decide (o = op) && chkE N sc nm a ea && chkE N sc nm b eb
    | _ => false
  | .chn op op2 a b c => match e with
    | .Compare ea [o, o2] [eb, ec] _ => decide (o = op) && decide (o2 = op2) && chkE N sc nm a ea && chkE N sc nm b eb && chkE N sc nm c ec
    | _ => false
  | .bop op es => match e with
    | .BoolOp o vs _ => decide (o = op) && chkEs N sc nm es vs
    | _ => false
  | .ite c a b => match e with
    | .IfExp ec ea eb _ => chkE N sc nm c ec && chkE N sc nm a ea && chkE N sc nm b eb
    | _ => false
  | .tup es => match e with
    | .Tuple vs _ _ => chkEs N sc nm es vs
    | _ => false
  | .lst es => match e with
    | .List vs _ => chkEs N sc nm es vs
    | _ => false
  | .dct es => match e with
    | .Dict keys values _ => chkD N sc nm es keys values && decide (keys.length ≤ 15)
    | _ => false
  | .ix a i => match e with
    | .Subscript ea ei _ => chkE N sc nm a ea && chkE N sc nm i ei
    | _ => false
  | .sl a lo hi => match e with
    | .Subscript ea (.Slice l h none _) _ => chkE N sc nm a ea && (match l with
        | none => isNo lo
        | some el => !isNo lo && chkE N sc nm lo el) && (match h with
        | none => isNo hi
        | some eh => !isNo hi && chkE N sc nm hi eh)
    | _ => false
  | .call f es => match e with
    | .Call (.Name x _) (a :: as) [] _ => decide (nm[f]? = some x) && glB sc x && chkEs N sc nm es (a :: as)
    | _ => false
  | .bl b es => match e with
    | .Call (.Name x _) (a :: as) [] _ => decide (x = b.name) && glB sc x && chkEs N sc nm es (a :: as)
    | _ => false
  | .get2 o a b => match e with
    | .Call (.Attribute eo x ap) [ea, eb] [] cp => decide (x = "get") && chkE N sc nm o eo && chkE N sc nm a ea && chkE N sc nm b eb && (ap.endLine == cp.line)
    | _ => false
  | .lrg a b => match e with
    | .Call (.Name x _) [.Call (.Name y _) as [] _] [] _ => decide (x = "list") && glB sc x && decide (y = "range") && glB sc y && (match as with
        | [eb] => (match a with
          | .ki n => n == 0
          | _ => false) && chkE N sc nm b eb
        | [ea, eb] => chkE N sc nm a ea && chkE N sc nm b eb
        | _ => false)
    | _ => false
  | .trg a b => match e with
    | .Call (.Name x _) [.Call (.Name y _) as [] _] [] _ => decide (x = "tuple") && glB sc x && decide (y = "range") && glB sc y && (match as with
        | [eb] => (match a with
          | .ki n => n == 0
          | _ => false) && chkE N sc nm b eb
        | [ea, eb] => chkE N sc nm a ea && chkE N sc nm b eb
        | _ => false)
    | _ => false
  | .mn a => match e with
    | .Call (.Name x _) [ea] [] _ => decide (x = "min") && glB sc x && chkE N sc nm a ea
    | _ => false
  | .sst a => match e with
    | .Call (.Name x _) [.Call (.Name y _) [ea] [] _] [] _ => decide (x = "sorted") && glB sc x && decide (y = "set") && glB sc y && chkE N sc nm a ea
    | _ => false
  | .callv i es => match e with
    | .Call (.Name x _) (a :: as) [] _ => nameOk N sc i x && (sc.names.lookup (".0" : Str)).isNone && chkEs N sc nm es (a :: as)
    | _ => false
  | .lc elt ts it cd => match e with
    | .ListComp eelt [⟨tg, iter, ifs, 0⟩] scope _ => ((relS scope sc).names.lookup (".0" : Str)).isSome && blkC N sc scope (ownOf N ts) && tgOk N (relS scope sc) ts tg && chkIt N sc nm it tg iter && chkE N (relS scope sc) nm elt eelt && (match ifs with
        | [] => isNo cd
        | [c] => !isNo cd && chkE N (relS scope sc) nm cd c
        | _ => false)
    | _ => false
termination_by structural t
def chkEs (N : List Str) (sc : Scope) (nm : List Str) (t : IEs) (es : List Expr) : Bool := match t with
  | .nil => es.isEmpty
  | .cons t ts => match es with
    | e :: es => chkE N sc nm t e && chkEs N sc nm ts es
    | [] => false
termination_by structural t
def chkD (N : List Str) (sc : Scope) (nm : List Str) (t : IEs) (keys : List (Option Expr)) (values : List Expr) : Bool := match t with
  | .nil => keys.isEmpty && values.isEmpty
  | .cons _ .nil => false
  | .cons t (.cons t2 ts) => match keys, values with
    | some k :: ks, v :: vs => chkE N sc nm t k && chkE N sc nm t2 v && chkD N sc nm ts ks vs
    | _, _ => false
termination_by structural t
def chkIt (N : List Str) (sc : Scope) (nm : List Str) (t : IT) (tg e : Expr) : Bool := match t with
  | .sq a => chkE N sc nm a e
  | .r1 a => match e with
    | .Call (.Name y _) [ea] [] _ => decide (y = "range") && glB sc y && chkE N sc nm a ea
    | _ => false
  | .r2 a b => match e with
    | .Call (.Name y _) [ea, eb] [] _ => decide (y = "range") && glB sc y && chkE N sc nm a ea && chkE N sc nm b eb
    | _ => false
  | .zp a b => match tg with
    | .Tuple .. => match e with
      | .Call (.Name y _) [ea, eb] [] _ => decide (y = "zip") && glB sc y && chkE N sc nm a ea && chkE N sc nm b eb
      | _ => false
    | _ => false
  | .en a => match tg with
    | .Tuple .. => match e with
      | .Call (.Name y _) [ea] [] _ => decide (y = "enumerate") && glB sc y && chkE N sc nm a ea
      | _ => false
    | _ => false
termination_by structural t
end
def isTupI : IE → Bool
  | .tup _ => true
  | _ => false
def isLc : IE → Bool
  | .lc .. => true
  | _ => false
mutual
def chkS (N : List Str) (sc : Scope) (nm : List Str) (t : IS) (s : Stmt) : Bool := match t with
  | .set i _ te => match s with
    | .Assign [.Name x px] e p => decide (N[i]? = some x) && setB sc x && chkE N sc nm te e && (!isLc te || !onlyLoc sc x || ((px.line == e.pos.line) && (match e with
        | .ListComp _ _ scope _ => !(scope.names.any fun (n, k) => n == x && (k == .local || k == .cell))
        | _ => false)))
    | _ => false
  | .unp is te => match s with
    | .Assign [.Tuple es _ _] e _ => !isLc te && !isTupI te && chkE N sc nm te e && tgtOk N sc is es && decide (2 ≤ is.length)
    | _ => false
  | .app i te => match s with
    | .Expr (.Call (.Attribute (.Name x _) m ap) [e] [] cp) _ => decide (m = "append") && nameOk N sc i x && chkE N sc nm te e && (ap.endLine == cp.line)
    | _ => false
  | .sub i k te => match s with
    | .Assign [.Subscript (.Name x _) ek _] e _ => nameOk N sc i x && chkE N sc nm k ek && chkE N sc nm te e && !isLc te
    | _ => false
  | .clr i => match s with
    | .Expr (.Call (.Attribute (.Name x _) m ap) [] [] cp) _ => decide (m = "clear") && nameOk N sc i x && (ap.endLine == cp.line)
    | _ => false
  | .exp te => match s with
    | .Expr e _ => chkE N sc nm te e && !isLc te
    | _ => false
  | .ret te => match s with
    | .Return (some e) _ => chkE N sc nm te e
    | _ => false
  | .retN => match s with
    | .Return none _ => true
    | _ => false
  | .iff c a b => match s with
    | .If ec sa sb _ => chkE N sc nm c ec && chkSs N sc nm a sa && chkSs N sc nm b sb
    | _ => false
  | .forr ts it body => match s with
    | .For tg iter b [] _ => tgOk N sc ts tg && chkIt N sc nm it tg iter && chkSs N sc nm body b
    | _ => false
  | .forIf ts it c te => match s with
    | .For tg iter [.If ec [.Return (some e) _] [] _] [] _ => tgOk N sc ts tg && chkIt N sc nm it tg iter && chkE N sc nm c ec && chkE N sc nm te e
    | _ => false
  | .whl _ c body => match s with
    | .While ec b [] _ => chkE N sc nm c ec && chkSs N sc nm body b
    | _ => false
  | .rai c => match s with
    | .Raise (some (.Call (.Name x _) [.Constant (.str _) _ _] [] _)) none _ => decide (x = c) && glB sc x
    | _ => false
  | .tryT body => match s with
    | .Try b (_ :: _) [] [] _ => chkSs N sc nm body b
    | _ => false
  | .pas => match s with
    | .Pass _ => true
    | _ => false
  | .brk => match s with
    | .Break _ => true
    | _ => false
  | .cnt => match s with
    | .Continue _ => true
    | _ => false
termination_by structural t
def chkSs (N : List Str) (sc : Scope) (nm : List Str) (t : ISs) (ss : List Stmt) : Bool := match t with
  | .nil => ss.isEmpty
  | .cons t ts => match ss with
    | s :: ss => chkS N sc nm t s && chkSs N sc nm ts ss
    | [] => false
termination_by structural t
end
end PyV
namespace PyV
open PySem L2
abbrev St := L2.St
/-! ### a frame, what a term's value is -/
section
variable (J : Hp → Prop) (K : PySem.W.Frag) (H0 : Hp) (B : Addr → Prop)
def OwnS (ρ : Env) (σ : St) (a : Addr) : Prop := ∃ (i : Nat) (d : D), ρ[i]? = some (some (.own, d)) ∧ σ[i]? = some (some (.ref a))
def NN (ρ : Env) (σ : St) (n : Bool) (a : Addr) : Prop := ¬ OwnS ρ σ a ∧ ¬ B a ∧ (n = true → H0 a = none)
def TopO (H : Hp) (N : Addr → Prop) (d : D) (a : Addr) : Prop := match d with
  | .lst ds => ∃ xs, H a = some (.lst xs) ∧ Reps K H (But N a) ds xs
  | .dct kvs => ∃ vs, H a = some (.dK vs) ∧ RepK K H (But N a) kvs vs
  | _ => False
def SlotOk (ρ : Env) (σ : St) (H : Hp) (t : Tg) (d : D) (v : V) : Prop := match t with
  | .own => ∃ a, v = .ref a ∧ H0 a = none ∧ ¬ B a ∧ TopO K H (NN H0 B ρ σ true) d a
  | .new => Rep K H (NN H0 B ρ σ true) d v
  | .old => Rep K H (NN H0 B ρ σ false) d v
structure Fr (ρ : Env) (σ : St) (H : Hp) : Prop where
  len : ρ.length = σ.length
  j : J H
  ext : Ext J H0 H
  hid : ∀ a, B a → H a ≠ none ∧ H0 a = none
  at_ : ∀ (i : Nat) (t : Tg) (d : D), ρ[i]? = some (some (t, d)) → ∃ v, σ[i]? = some (some v) ∧ SlotOk K H0 B ρ σ H t d v
  dis : ∀ (i j : Nat) (a : Addr) (d d' : D), ρ[i]? = some (some (.own, d)) → ρ[j]? = some (some (.own, d')) → σ[i]? = some (some (.ref a)) → σ[j]? = some (some (.ref a)) → i = j
def ResOk (ρ : Env) (σ : St) (H1 H2 : Hp) (k : Kd) (d : D) (v : V) : Prop := match k with
  | .own => ∃ j : Nat, ρ[j]? = some (some (.own, d)) ∧ σ[j]? = some (some v)
  | .top n => ∃ p, v = .ref p ∧ H1 p = none ∧ TopO K H2 (NN H0 B ρ σ n) d p
  | .pl n => Rep K H2 (NN H0 B ρ σ n) d v
/-- as an operand: what stands at the top may be own -/
def Rep1 (H : Hp) (N : Addr → Prop) (d : D) (v : V) : Prop := match d with
  | .lst ds => ∃ a xs, v = .ref a ∧ H a = some (.lst xs) ∧ Reps K H (But N a) ds xs
  | .dct kvs => ∃ a vs, v = .ref a ∧ H a = some (.dK vs) ∧ RepK K H (But N a) kvs vs
  | d => Rep K H N d v
end
section
variable {J : Hp → Prop} {K : PySem.W.Frag} {H0 H H1 H2 H3 : Hp} {B : Addr → Prop} {ρ : Env} {σ : St} {k : Kd} {d : D} {v : V} {n : Bool} {a p : Addr} {N N' : Addr → Prop}
theorem TopO.ext (e : Ext J H H1) (t : TopO K H N d a) : TopO K H1 N d a := by
  cases d with
  | lst ds => obtain ⟨xs, h, r⟩ := t; exact ⟨xs, e.keep _ _ h (fun _ q => nomatch q), r.ext e⟩
  | dct ds => obtain ⟨xs, h, r⟩ := t; exact ⟨xs, e.keep _ _ h (fun _ q => nomatch q), r.ext e⟩
  | _ => exact t.elim
theorem TopO.some (t : TopO K H N d a) : H a ≠ none := by
  cases d with
  | lst ds => obtain ⟨xs, h, r⟩ := t; rw [h]; simp
  | dct ds => obtain ⟨xs, h, r⟩ := t; rw [h]; simp
  | _ => exact t.elim
theorem TopO.rep (t : TopO K H N d a) (s : ∀ a, N a → H a ≠ none → N' a) (n : N' a) : Rep K H N' d (.ref a) := by
  cases d with
  | lst ds => obtain ⟨xs, h, r⟩ := t; exact .lst n h (r.sub fun b q z => ⟨s b q.1 z, q.2⟩)
  | dct ds => obtain ⟨xs, h, r⟩ := t; exact .dct n h (r.sub fun b q z => ⟨s b q.1 z, q.2⟩)
  | _ => exact t.elim
theorem TopO.rep1 (t : TopO K H N d a) (s : ∀ a, N a → H a ≠ none → N' a) : Rep1 K H N' d (.ref a) := by
  cases d with
  | lst ds => obtain ⟨xs, h, r⟩ := t; exact ⟨a, xs, rfl, h, r.sub fun b q z => ⟨s b q.1 z, q.2⟩⟩
  | dct ds => obtain ⟨xs, h, r⟩ := t; exact ⟨a, xs, rfl, h, r.sub fun b q z => ⟨s b q.1 z, q.2⟩⟩
  | _ => exact t.elim
theorem TopO.sub (t : TopO K H N d a) (s : ∀ a, N a → H a ≠ none → N' a) : TopO K H N' d a := by
  cases d with
  | lst ds => obtain ⟨xs, h, r⟩ := t; exact ⟨xs, h, r.sub fun b q z => ⟨s b q.1 z, q.2⟩⟩
  | dct ds => obtain ⟨xs, h, r⟩ := t; exact ⟨xs, h, r.sub fun b q z => ⟨s b q.1 z, q.2⟩⟩
  | _ => exact t.elim
theorem Rep1.of (r : Rep K H N d v) : Rep1 K H N d v := by
  cases r with
  | lst n h r => exact ⟨_, _, rfl, h, r⟩
  | dct n h r => exact ⟨_, _, rfl, h, r⟩
  | non => exact .non
  | bl b => exact .bl b
  | int b => exact .int b
  | str b => exact .str b
  | opq b => exact .opq _
  | tup h r => exact .tup h r
  | prs h r => exact .prs h r
  | frz h r => exact .frz h r
theorem Rep1.ext (e : Ext J H H1) (r : Rep1 K H N d v) : Rep1 K H1 N d v := by
  cases d with
  | lst ds => obtain ⟨a, xs, h0, h, r⟩ := r; exact ⟨a, xs, h0, e.keep _ _ h (fun _ q => nomatch q), r.ext e⟩
  | dct ds => obtain ⟨a, xs, h0, h, r⟩ := r; exact ⟨a, xs, h0, e.keep _ _ h (fun _ q => nomatch q), r.ext e⟩
  | non => exact Rep.ext e r
  | bl b => exact Rep.ext e r
  | int b => exact Rep.ext e r
  | str b => exact Rep.ext e r
  | opq b => exact Rep.ext e r
  | tup b => exact Rep.ext e r
  | prs b => exact Rep.ext e r
  | frz b => exact Rep.ext e r
theorem Rep1.any (r : Rep1 K H N d v) : Rep K H (fun _ => True) d v := by
  cases d with
  | lst ds => obtain ⟨a, xs, rfl, h, r⟩ := r; exact .lst trivial h (r.sub fun _ q _ => ⟨trivial, q.2⟩)
  | dct ds => obtain ⟨a, xs, rfl, h, r⟩ := r; exact .dct trivial h (r.sub fun _ q _ => ⟨trivial, q.2⟩)
  | non => exact Rep.sub (fun _ _ _ => trivial) r
  | bl b => exact Rep.sub (fun _ _ _ => trivial) r
  | int b => exact Rep.sub (fun _ _ _ => trivial) r
  | str b => exact Rep.sub (fun _ _ _ => trivial) r
  | opq b => exact Rep.sub (fun _ _ _ => trivial) r
  | tup b => exact Rep.sub (fun _ _ _ => trivial) r
  | prs b => exact Rep.sub (fun _ _ _ => trivial) r
  | frz b => exact Rep.sub (fun _ _ _ => trivial) r
theorem NN.mono (h : NN H0 B ρ σ n a) : NN H0 B ρ σ false a := ⟨h.1, h.2.1, fun z => nomatch z⟩
theorem NN.le {m : Bool} (hm : m = true → n = true) (h : NN H0 B ρ σ n a) : NN H0 B ρ σ m a := ⟨h.1, h.2.1, fun z => h.2.2 (hm z)⟩
theorem Fr.own_some (f : Fr J K H0 B ρ σ H) (o : OwnS ρ σ a) : H a ≠ none := by
  obtain ⟨i, d, h1, h2⟩ := o
  obtain ⟨v, h3, h4⟩ := f.at_ i _ d h1
  obtain ⟨b, rfl, _, _, t⟩ := h4
  rw [h2] at h3
  cases h3
  exact t.some
theorem Fr.nn_new (f : Fr J K H0 B ρ σ H) (h : H p = none) : NN H0 B ρ σ n p :=
  ⟨fun o => f.own_some o h, fun b => (f.hid p b).1 h, fun _ => f.ext.free p h⟩
theorem Fr.slot (f : Fr J K H0 B ρ σ H) {i : Nat} {t : Tg} (h : ρ[i]? = some (some (t, d))) : ∃ v, σ[i]? = some (some v) ∧ SlotOk K H0 B ρ σ H t d v := f.at_ i t d h
theorem Fr.go (f : Fr J K H0 B ρ σ H) (e : Ext J H H1) : Fr J K H0 B ρ σ H1 where
  len := f.len
  j := e.j f.j
  ext := f.ext.trans e
  hid := fun a b => ⟨fun z => (f.hid a b).1 (e.free a z), (f.hid a b).2⟩
  at_ := fun i t d h => by
    obtain ⟨v, h1, h2⟩ := f.at_ i t d h
    refine ⟨v, h1, ?_⟩
    cases t with
    | own => obtain ⟨a, h3, h4, h5, t⟩ := h2; exact ⟨a, h3, h4, h5, t.ext e⟩
    | new => exact Rep.ext e h2
    | old => exact Rep.ext e h2
  dis := f.dis
theorem ResOk.ext (e : Ext J H2 H3) (r : ResOk K H0 B ρ σ H1 H2 k d v) : ResOk K H0 B ρ σ H1 H3 k d v := by
  cases k with
  | own => exact r
  | top n => obtain ⟨p, h1, h2, t⟩ := r; exact ⟨p, h1, h2, t.ext e⟩
  | pl n => exact Rep.ext e r
theorem ResOk.back (e : Ext J H H1) (r : ResOk K H0 B ρ σ H1 H2 k d v) : ResOk K H0 B ρ σ H H2 k d v := by
  cases k with
  | own => exact r
  | top n => obtain ⟨p, h1, h2, t⟩ := r; exact ⟨p, h1, e.free _ h2, t⟩
  | pl n => exact r
theorem ResOk.rep1 (f : Fr J K H0 B ρ σ H2) (r : ResOk K H0 B ρ σ H1 H2 k d v) : Rep1 K H2 (NN H0 B ρ σ k.new) d v := by
  cases k with
  | own =>
    obtain ⟨j, h1, h2⟩ := r
    obtain ⟨w, h3, a, rfl, _, _, t⟩ := f.at_ j _ d h1
    rw [h2] at h3
    cases h3
    exact t.rep1 fun _ h _ => h
  | top n => obtain ⟨p, rfl, h2, t⟩ := r; exact t.rep1 fun _ h _ => h
  | pl n => exact Rep1.of r
theorem ResOk.rep (f : Fr J K H0 B ρ σ H1) (e : Ext J H1 H2) (r : ResOk K H0 B ρ σ H1 H2 k d v) (ho : k.isOwn = false) : Rep K H2 (NN H0 B ρ σ k.new) d v := by
  cases k with
  | own => cases ho
  | top n => obtain ⟨p, rfl, h2, t⟩ := r; exact t.rep (fun _ h _ => h) (f.nn_new h2)
  | pl n => exact r
/-- what is made anew of elements -/
theorem reps_new {ds : List D} {xs : List V} {o : HO} (jk : JOk J) (h : H p = none) (r : Reps K H N ds xs) : Reps K (upd H p o) (But N p) ds xs :=
  Reps.ext (J := fun _ => True) (Ext.new ⟨fun _ _ _ _ _ => trivial, fun _ _ _ _ _ _ => trivial, fun _ _ _ _ _ _ => trivial⟩ h) (r.sub fun a q hn => ⟨q, fun z => hn (z ▸ h)⟩)
theorem res_lst0 {ds : List D} {xs : List V} (jk : JOk J) (h : H p = none) (hb : Ext J H1 H) (r : Reps K H (NN H0 B ρ σ n) ds xs) : ResOk K H0 B ρ σ H1 (upd H p (.lst xs)) (.top n) (.lst ds) (.ref p) :=
  ⟨p, rfl, hb.free p h, xs, upd_same, reps_new jk h r⟩
theorem res_lst {ds : List D} {xs : List V} (jk : JOk J) (h : H p = none) (hb : Ext J H1 H) (r : Reps K H (NN H0 B ρ σ n) ds xs) : ResOk K H0 B ρ σ H1 (upd H p (.lst xs)) (.top (n || pureL ds)) (.lst ds) (.ref p) := by
  cases e : pureL ds with
  | false => rw [Bool.or_false]; exact res_lst0 jk h hb r
  | true => rw [Bool.or_true]; exact res_lst0 jk h hb (r.pure e)
theorem res_tup {ds : List D} {xs : List V} {o : Obj} (jk : JOk J) (h : H p = none) (ho : PlT o) (r : Reps K H (NN H0 B ρ σ n) ds xs) : ResOk K H0 B ρ σ H1 (upd H p (.frz o (.tup xs))) (.pl n) (.tup ds) (.ref p) :=
  .tup (.inl ⟨o, ho.1, ho.2, upd_same⟩) (r.ext (Ext.new jk h))
theorem res_pl (r : Rep K H2 (NN H0 B ρ σ n) d v) : ResOk K H0 B ρ σ H1 H2 (elR n d).1 (elR n d).2 v := by
  cases d <;> first
    | exact r
    | exact r.pure rfl
/-- scalars -/
theorem res_sc (h : flatD d = true) (e : v = flatVD d) : ResOk K H0 B ρ σ H1 H2 (.pl n) d v := by
  subst e
  cases d with
  | non => exact Rep.non
  | bl b => exact Rep.bl b
  | int b => exact Rep.int b
  | str b => exact Rep.str b
  | _ => cases h
end
end PyV
namespace PyV
open PySem L2
/-! ### what the text's form must bear -/
def okE : Expr → Bool
  | .Starred .. => false
  | .Slice .. => false
  | .Set .. => false
  | .NamedExpr .. => false
  | .SetComp .. => false
  | .DictComp .. => false
  | _ => true
def isLCE : Expr → Bool
  | .ListComp .. => true
  | _ => false
theorem star_ok {e : Expr} {es : List Expr} {env : PySem.Env} (h : okE e = true) : starEach (e :: es) env = (false, eval e env) :: starEach es env := by
  cases e <;> first | rfl | (cases h)
theorem plain_ok {e : Expr} (h : okE e = true) : PlainIx e := by
  intro o i
  cases e <;> first | rfl | (cases h)
theorem fold_ok {e : Expr} {env : PySem.Env} (h : okE e = true) (x : Value) : foldedSetIterable e env x = pure x := by
  cases e <;> first | rfl | (cases h)
theorem mark_ok {e : Expr} {op : CmpOp} (h : okE e = true) : behindInMarks op e = false := by
  cases e <;> first | rfl | (cases h)
theorem swap_ok {e : Expr} {t : Option Expr} {l : Nat} {env : PySem.Env} (h : okE e = true) (h2 : isLCE e = false) : swapsWith e t l env = pure false := by
  cases e <;> first | rfl | (cases h2; done) | (cases h; done)
mutual
theorem chk_ok {N : List Str} {sc : Scope} {nm : List Str} : ∀ {t : IE} {e : Expr}, chkE N sc nm t e = true → okE e = true := by
  intro t e h
  cases e <;> first | rfl | (cases t <;> first | (simp [chkE] at h; done) | rfl)
end
theorem chk_lc {N : List Str} {sc : Scope} {nm : List Str} {t : IE} {e : Expr} (h : chkE N sc nm t e = true) (h2 : isLc t = false) : isLCE e = false := by
  cases e <;> first | rfl | (cases t <;> first | (simp [chkE] at h; done) | (cases h2))
/-! ### terms by their own wp -/
section
variable (X : Cx)
def tE (e : Expr) : TE := fun σ H Q => ∀ (pins : List (Addr × Obj)) (s : Shared), Inv X pins σ H s → wpAny (model X.prog X.w) X.A (eval e X.env) (EP X pins σ Q) X.xe s
def tT (e : Expr) : TT := fun σ H Q => ∀ (pins : List (Addr × Obj)) (s : Shared), Inv X pins σ H s → wpAny (model X.prog X.w) X.A (isTrue e X.env (eval e X.env)) (TP X pins σ Q) X.xe s
def tW (e : Expr) : TT := fun σ H Q => ∀ (whole : Sem Value) (pins : List (Addr × Obj)) (s : Shared), Inv X pins σ H s → wpAny (model X.prog X.w) X.A (isTrue e X.env whole) (TP X pins σ Q) X.xe s
def tA (es : List Expr) : TA := fun σ H Q => ∀ (pos : Pos) (pins : List (Addr × Obj)) (s : Shared), Inv X pins σ H s → wpAny (model X.prog X.w) X.A (spliced (backTo pos (starEach es X.env))) (AP X pins σ Q) X.xe s
def tSt (st : Stmt) : TS := fun D σ H => ∀ (pins : List (Addr × Obj)) (s : Shared), Inv X pins σ H s → wpAny (model X.prog X.w) X.A (exec st X.env) (SP X pins D) X.xe s
def tSs (st : List Stmt) : TS := fun D σ H => ∀ (pins : List (Addr × Obj)) (s : Shared), Inv X pins σ H s → wpAny (model X.prog X.w) X.A (execs st X.env) (SP X pins D) X.xe s
def tIt (tg e : Expr) : TI := fun σ H R => ∀ (pins : List (Addr × Obj)) (s : Shared), Inv X pins σ H s →
  wpAny (model X.prog X.w) X.A (eval e X.env) (fun v s1 => wpAny (model X.prog X.w) X.A (pyIter v) (PIE X pins σ tg R) X.xe s1) X.xe s
end
section
variable {X : Cx} {e : Expr} {es : List Expr} {st : Stmt} {ss : List Stmt} {tg : Expr} {σ : St} {H : Hp}
theorem pe_self : PE X e (tE X e) := ⟨fun pins s σ H Q I h => h pins s I⟩
theorem pt_self : PT X e (tT X e) := ⟨fun pins s σ H Q I h => h pins s I⟩
theorem pw_self : PW X e (tW X e) := ⟨fun whole pins s σ H Q I h => h whole pins s I⟩
theorem pa_self : PA X es (tA X es) := ⟨fun pos pins s σ H Q I h => h pos pins s I⟩
theorem ps_self : PS X st (tSt X st) := ⟨fun pins s σ H Q I h => h pins s I⟩
theorem pss_self : PSs X ss (tSs X ss) := ⟨fun pins s σ H Q I h => h pins s I⟩
theorem pi_self : PI X tg e (tIt X tg e) := ⟨fun pins s σ H Q I h => h pins s I⟩
theorem tE_of {t : TE} {Q : VK} (p : PE X e t) (h : t σ H Q) : tE X e σ H Q := fun pins s I => p.run pins s σ H Q I h
theorem tT_of {t : TT} {Q : Bool → Hp → Prop} (p : PT X e t) (h : t σ H Q) : tT X e σ H Q := fun pins s I => p.run pins s σ H Q I h
theorem tW_of {t : TT} {Q : Bool → Hp → Prop} (p : PW X e t) (h : t σ H Q) : tW X e σ H Q := fun wh pins s I => p.run wh pins s σ H Q I h
theorem tA_of {t : TA} {Q : List V → Hp → Prop} (p : PA X es t) (h : t σ H Q) : tA X es σ H Q := fun pos pins s I => p.run pos pins s σ H Q I h
theorem tSt_of {t : TS} {D : Ends} (p : PS X st t) (h : t D σ H) : tSt X st D σ H := fun pins s I => p.run pins s σ H D I h
theorem tSs_of {t : TS} {D : Ends} (p : PSs X ss t) (h : t D σ H) : tSs X ss D σ H := fun pins s I => p.run pins s σ H D I h
theorem tIt_of {t : TI} {R : It → Hp → Prop} (p : PI X tg e t) (h : t σ H R) : tIt X tg e σ H R := fun pins s I => p.run pins s σ H R I h
theorem tT_W {Q : Bool → Hp → Prop} (h : tW X e σ H Q) : tT X e σ H Q := fun pins s I => h _ pins s I
end
/-! ### the context of a def's body or a block, for the machine -/
/-- what a def promises: g of the data -/
def spM (J : Hp → Prop) (K : PySem.W.Frag) (exv : Str → Option Addr) (g : List D → M D) : Sp := fun vs H Q E => ∃ ds, J H ∧ Reps K H (fun _ => True) ds vs ∧ match g ds with
  | .stuck => False
  | .ok d => ∀ v H', Ext J H H' → Rep K H' (fun a => H a = none) d v → Q v H'
  | .ex c => ∀ C H', exv c = some C → Ext J H H' → E (.ref C) none H'
/-- the def of that number stands, and keeps its promise -/
structure FnAt (X : Cx) (J : Hp → Prop) (exv : Str → Option Addr) (k : Nat) (x : Str) (g : List D → M D) (a : Addr) (fd : FuncData) (ps : List Str) : Prop where
  mg : X.mg x = some (.ref a)
  kp : PySem.W.keepIn X.K (.ref a) = true
  bi : Binds X.K fd ps []
  ok : FnOk X.prog X.w X.K X.mg X.base (L2.CX X.prog X.w) k a fd ps (spM J X.K exv g)
/-- a class of exceptions that may be raised with a text -/
def RaiseAt (K : PySem.W.Frag) (mg : Str → Option Value) (c : Str) (C : Addr) : Prop := ∃ (bmB : List Value) (B newId initId : String), ExcBaseFacts B newId initId bmB ∧ PySem.W.excIn K C bmB newId = true ∧ mg c = some (.ref C) ∧ PySem.W.keepIn K (.ref C) = true ∧
  PySem.W.subIn K (.ref C) (.type "BaseException") = some true ∧ PySem.W.typeIn K (.ref C) = some (.type "type")
theorem setB_loc {sc : Scope} {x : Str} (h : setB sc x = true) : locB sc x = true := by
  unfold setB at h
  unfold locB
  split at h
  · rfl
  · rfl
  · cases h
/-- what stands behind a function value that the frame was handed: a nested def, its cells as they were when the frame began -/
def CloAt (X : Cx) (J : Hp → Prop) (exv : Str → Option Addr) (k : Nat) (v : V) (g : List D → M D) : Prop := ∃ (f : Addr) (F : NdefX.NF) (ps fr : List Str) (ws : List (Option V)), v = .ref f ∧ NdefX.NOk X.prog X.w X.K X.mg X.base (L2.CX X.prog X.w) k f F ps fr (fun us vs H Q E => us = ws ∧ spM J X.K exv g vs H Q E) ∧
  (∀ H, J H → H f = some (NdefX.FnO f F) ∧ H F.c = some (LamX.CodeO F.c F.qual)) ∧ NdefX.CellsAt F.cl fr ws X.s_0.heap X.H_0 ∧ (∀ y c, F.cl.lookup y = some c → c ∉ X.fs) ∧ ∀ y c, F.cl.lookup y = some c → c ∉ X.ex
structure Cok (X : Cx) (J : Hp → Prop) (exv : Str → Option Addr) (k : Nat) (W : WX) (N : List Str) (sc : Scope) (nm : List Str) (S : Sig) : Prop where
  hN : X.N = N
  nd : N.Nodup
  hsc : X.env.scope = sc
  fnok : ∀ x, setB sc x = true → X.fn x = true ∨ X.env.scope.names.lookup x = some .local
  calm : X.calm = true
  room : Room k X.A
  jk : JOk J
  blt : ∀ x ∈ builtinNames, X.mg x = none
  fns : ∀ (f : Nat) (x : Str), nm[f]? = some x → ∃ a fd ps, FnAt X J exv k x (S.call f) a fd ps
  tk : Takes X W
  exs : ∀ c, S.rai c = true → ∃ C, exv c = some C ∧ RaiseAt X.K X.mg c C
  glo : ∀ x d, S.glob x = some d → ∀ (H : Hp) (N : Addr → Prop), ∃ v u, X.mg x = some u ∧ RelV v u ∧ Rep X.K H N d v
  clo : (sc.names.lookup (".0" : Str)).isNone = true → ∀ v ds, S.call cloN (.opq v :: ds) ≠ .stuck → CloAt X J exv k v fun ds => S.call cloN (.opq v :: ds)
/-! ### judgements -/
def Wish (J : Hp → Prop) (exv : Str → Option Addr) (W : WX) (σ : St) (H : Hp) {α : Type} (r : M α) : Prop := ∀ c, r = .ex c → ∀ C H', exv c = some C → Ext J H H' → W (.ref C) none σ H'
section
variable (X : Cx) (J : Hp → Prop) (exv : Str → Option Addr) (W : WX) (H0 : Hp) (B : Addr → Prop)
def JE (e : Expr) (ρ : Env) (r : M R) : Prop := ∀ σ H Q, Fr J X.K H0 B ρ σ H → r ≠ .stuck → Wish J exv W σ H r →
  (∀ k d, r = .ok (k, d) → ∀ v H', Ext J H H' → ResOk X.K H0 B ρ σ H H' k d v → Q v H') → tE X e σ H Q
def JT (e : Expr) (ρ : Env) (r : M Bool) : Prop := ∀ σ H Q, Fr J X.K H0 B ρ σ H → r ≠ .stuck → Wish J exv W σ H r →
  (∀ b, r = .ok b → ∀ H', Ext J H H' → Q b H') → tT X e σ H Q
/-- several values, one behind another -/
def ResAll (K : PySem.W.Frag) (ρ : Env) (σ : St) (H1 H2 : Hp) : List R → List V → Prop
  | [], vs => vs = []
  | r :: rs, vs => ∃ v vr, vs = v :: vr ∧ ResOk K H0 B ρ σ H1 H2 r.1 r.2 v ∧ ResAll K ρ σ H1 H2 rs vr
def JA (es : List Expr) (ρ : Env) (r : M (List R)) : Prop := ∀ σ H Q, Fr J X.K H0 B ρ σ H → r ≠ .stuck → Wish J exv W σ H r →
  (∀ rs, r = .ok rs → ∀ vs H', Ext J H H' → ResAll H0 B X.K ρ σ H H' rs vs → Q vs H') → tA X es σ H Q
end
section
variable {X : Cx} {J : Hp → Prop} {exv : Str → Option Addr} {W : WX} {H0 : Hp} {B : Addr → Prop} {e : Expr} {es : List Expr} {ρ : Env} {σ : St} {H H1 H2 H3 : Hp} {α β : Type}
theorem Wish.go {r : M α} (w : Wish J exv W σ H r) (e : Ext J H H1) : Wish J exv W σ H1 r := fun c h C H' hc x => w c h C H' hc (e.trans x)
theorem bind_ns {r : M α} {f : α → M β} (h : r.bind f ≠ .stuck) : r ≠ .stuck := fun z => by subst z; exact h rfl
theorem Wish.left {r : M α} {f : α → M β} (w : Wish J exv W σ H (r.bind f)) : Wish J exv W σ H r := fun c h => w c (by rw [h]; rfl)
/-- a first part is evaluated, its end is known -/
theorem JE.use {r : M R} {f : R → M β} {Q : VK} (h : JE X J exv W H0 B e ρ r) (fr : Fr J X.K H0 B ρ σ H) (ns : r.bind f ≠ .stuck) (w : Wish J exv W σ H (r.bind f))
    (k : ∀ kd d, r = .ok (kd, d) → ∀ v H', Ext J H H' → Fr J X.K H0 B ρ σ H' → ResOk X.K H0 B ρ σ H H' kd d v → f (kd, d) ≠ .stuck → Wish J exv W σ H' (f (kd, d)) → Q v H') : tE X e σ H Q :=
  h σ H Q fr (bind_ns ns) w.left fun kd d e v H' x q => k kd d e v H' x (fr.go x) q (by rw [e] at ns; exact ns) (by rw [e] at w; exact Wish.go w x)
theorem JT.use {r : M Bool} {f : Bool → M β} {Q : Bool → Hp → Prop} (h : JT X J exv W H0 B e ρ r) (fr : Fr J X.K H0 B ρ σ H) (ns : r.bind f ≠ .stuck) (w : Wish J exv W σ H (r.bind f))
    (k : ∀ b, r = .ok b → ∀ H', Ext J H H' → Fr J X.K H0 B ρ σ H' → f b ≠ .stuck → Wish J exv W σ H' (f b) → Q b H') : tT X e σ H Q :=
  h σ H Q fr (bind_ns ns) w.left fun b e H' x => k b e H' x (fr.go x) (by rw [e] at ns; exact ns) (by rw [e] at w; exact Wish.go w x)
theorem JA.use {r : M (List R)} {f : List R → M β} {Q : List V → Hp → Prop} (h : JA X J exv W H0 B es ρ r) (fr : Fr J X.K H0 B ρ σ H) (ns : r.bind f ≠ .stuck) (w : Wish J exv W σ H (r.bind f))
    (k : ∀ rs, r = .ok rs → ∀ vs H', Ext J H H' → Fr J X.K H0 B ρ σ H' → ResAll H0 B X.K ρ σ H H' rs vs → f rs ≠ .stuck → Wish J exv W σ H' (f rs) → Q vs H') : tA X es σ H Q :=
  h σ H Q fr (bind_ns ns) w.left fun rs e v H' x q => k rs e v H' x (fr.go x) q (by rw [e] at ns; exact ns) (by rw [e] at w; exact Wish.go w x)
theorem ResAll.ext {K : PySem.W.Frag} (e : Ext J H2 H3) : ∀ {rs : List R} {vs : List V}, ResAll H0 B K ρ σ H1 H2 rs vs → ResAll H0 B K ρ σ H1 H3 rs vs
  | [], _, h => h
  | _ :: _, _, ⟨v, vr, h, r, q⟩ => ⟨v, vr, h, r.ext e, ResAll.ext e q⟩
theorem ResAll.back {K : PySem.W.Frag} (e : Ext J H H1) : ∀ {rs : List R} {vs : List V}, ResAll H0 B K ρ σ H1 H2 rs vs → ResAll H0 B K ρ σ H H2 rs vs
  | [], _, h => h
  | _ :: _, _, ⟨v, vr, h, r, q⟩ => ⟨v, vr, h, r.back e, ResAll.back e q⟩
theorem ResAll.any {K : PySem.W.Frag} (f : Fr J K H0 B ρ σ H2) : ∀ {rs : List R} {vs : List V}, ResAll H0 B K ρ σ H1 H2 rs vs → Reps K H2 (fun _ => True) (rs.map (·.2)) vs
  | [], _, h => by cases h; exact .nil
  | _ :: _, _, ⟨v, vr, h, r, q⟩ => by subst h; exact .cons (r.rep1 f).any (ResAll.any f q)
theorem ResAll.reps {K : PySem.W.Frag} (f : Fr J K H0 B ρ σ H1) (e : Ext J H1 H2) (m : Bool) : ∀ {rs : List R} {vs : List V}, ResAll H0 B K ρ σ H1 H2 rs vs → noOwn rs = true → (m = true → allNew rs = true) → Reps K H2 (NN H0 B ρ σ m) (rs.map (·.2)) vs
  | [], _, h, _, _ => by cases h; exact .nil
  | r :: rs, _, ⟨v, vr, h, r', q⟩, no, al => by
    subst h
    have no' := Bool.and_eq_true_iff.mp (show (!r.1.isOwn && noOwn rs) = true from by simpa [noOwn] using no)
    refine .cons ((r'.rep f e (by simpa using no'.1)).sub fun a n _ => n.le fun z => ?_) (ResAll.reps f e m q no'.2 fun z => ?_)
    · have := al z
      simp only [allNew, List.all_cons, Bool.and_eq_true] at this
      exact this.2
    · have := al z
      simp only [allNew, List.all_cons, Bool.and_eq_true] at this
      exact this.1
end
end PyV
namespace PyV
open PySem L2
theorem guard_ok {α : Type} {p : Prop} [Decidable p] {x : M α} {a : α} (h : guard' p x = .ok a) : p ∧ x = .ok a := by
  unfold guard' at h
  split at h
  · exact ⟨by assumption, h⟩
  · cases h
theorem guard_ns {α : Type} {p : Prop} [Decidable p] {x : M α} (h : guard' p x ≠ .stuck) : p ∧ guard' p x = x := by
  unfold guard' at h ⊢
  split at h
  · rename_i hp
    exact ⟨hp, if_pos hp⟩
  · exact absurd rfl h
theorem lim_size {n : Nat} (h : n ≤ lim) : n ≤ sizeLine := Nat.le_trans h (by rw [sizeLine_eq]; decide)
theorem lim_lt {n : Nat} (h : n < lim) : n < sizeLine := Nat.lt_of_lt_of_le h (by rw [sizeLine_eq]; decide)
section
variable {X : Cx} {J : Hp → Prop} {H0 H H1 : Hp} {B : Addr → Prop} {ρ : Env} {σ : St} {n1 n2 n : Bool} {N : Addr → Prop} {d : D} {v x y : V}
theorem r1_int {i : Int} (r : Rep1 X.K H N (.int i) v) : v = .int i := by
  cases (show Rep X.K H N (.int i) v from r)
  rfl
theorem r1_bl {i : Bool} (r : Rep1 X.K H N (.bl i) v) : v = .bl i := by
  cases (show Rep X.K H N (.bl i) v from r)
  rfl
theorem r1_str {i : Str} (r : Rep1 X.K H N (.str i) v) : v = .str i := by
  cases (show Rep X.K H N (.str i) v from r)
  rfl
theorem r1_non (r : Rep1 X.K H N .non v) : v = .non := by
  cases (show Rep X.K H N .non v from r)
  rfl
theorem r1_opq {w : V} (r : Rep1 X.K H N (.opq w) v) : v = w := by
  cases (show Rep X.K H N (.opq w) v from r)
  rfl
theorem r1_tup {ds : List D} (r : Rep1 X.K H N (.tup ds) v) : ∃ a xs, v = .ref a ∧ SqP X.K H a xs ∧ Reps X.K H N ds xs := by
  cases (show Rep X.K H N (.tup ds) v from r) with
  | tup h q => exact ⟨_, _, rfl, h, q⟩
theorem r1_frz {ds : List D} (r : Rep1 X.K H N (.frz ds) v) : ∃ a xs, v = .ref a ∧ FrzL X.K H a xs ∧ Reps X.K H N ds xs := by
  cases (show Rep X.K H N (.frz ds) v from r) with
  | frz h q => exact ⟨_, _, rfl, h, q⟩
theorem r1_lst {ds : List D} (r : Rep1 X.K H N (.lst ds) v) : ∃ a xs, v = .ref a ∧ H a = some (.lst xs) ∧ Reps X.K H N ds xs :=
  let ⟨a, xs, h1, h2, q⟩ := r; ⟨a, xs, h1, h2, q.sub fun _ z _ => z.1⟩
theorem r1_dct {ds : List (Key × D)} (r : Rep1 X.K H N (.dct ds) v) : ∃ a xs, v = .ref a ∧ H a = some (.dK xs) ∧ RepK X.K H N ds xs :=
  let ⟨a, xs, h1, h2, q⟩ := r; ⟨a, xs, h1, h2, q.sub fun _ z _ => z.1⟩
theorem reps_and1 {ds : List D} {xs : List V} (r : Reps X.K H (NN H0 B ρ σ n1) ds xs) : Reps X.K H (NN H0 B ρ σ (n1 && n2)) ds xs :=
  r.sub fun _ n _ => n.le fun z => (Bool.and_eq_true_iff.mp z).1
theorem reps_and2 {ds : List D} {xs : List V} (r : Reps X.K H (NN H0 B ρ σ n2) ds xs) : Reps X.K H (NN H0 B ρ σ (n1 && n2)) ds xs :=
  r.sub fun _ n _ => n.le fun z => (Bool.and_eq_true_iff.mp z).2
theorem reps_flat {ds : List D} {xs : List V} (k : Nat) (r : Reps X.K H N ds xs) : Reps X.K H N (List.replicate k ds).flatten (List.replicate k xs).flatten := by
  induction k with
  | zero => exact .nil
  | succ k ih =>
    rw [List.replicate_succ, List.replicate_succ, List.flatten_cons, List.flatten_cons]
    exact r.app ih
abbrev BinP (X : Cx) (J : Hp → Prop) (H0 : Hp) (B : Addr → Prop) (ρ : Env) (σ : St) (dx dy d : D) (r : R2) : Prop :=
  ∀ (H1 H : Hp) (x y : V) (n1 n2 : Bool) (Q : VK), Rep1 X.K H (NN H0 B ρ σ n1) dx x → Rep1 X.K H (NN H0 B ρ σ n2) dy y → Ext J H1 H →
    (∀ v H', Ext J H H' → ResOk X.K H0 B ρ σ H1 H' (mkR (n1 && n2) d).1 (mkR (n1 && n2) d).2 v → Q v H') → r x y H Q
theorem bin_rule (jk : JOk J) {op : Operator} {dx dy d : D} (h : dBin op dx dy = .ok d) : ∃ r, OpR X (binaryOp op) r ∧ BinP X J H0 B ρ σ dx dy d r := by
  unfold dBin at h
  split at h
  · cases h
    refine ⟨_, op_add, fun H1 H x y n1 n2 Q rx ry e k => ?_⟩
    obtain rfl := r1_int rx
    obtain rfl := r1_int ry
    exact ⟨_, _, rfl, rfl, k _ _ (.refl _) (.int _)⟩
  · obtain ⟨hz, h⟩ := guard_ok h
    cases h
    refine ⟨_, op_cat, fun H1 H x y n1 n2 Q rx ry e k => ?_⟩
    obtain ⟨a, xs, rfl, ha, qa⟩ := r1_lst rx
    obtain ⟨b, ys, rfl, hb, qb⟩ := r1_lst ry
    refine ⟨a, b, xs, ys, rfl, rfl, ha, hb, ?_, fun p hp => k _ _ (Ext.new jk hp) (res_lst jk hp e ((reps_and1 qa).app (reps_and2 qb)))⟩
    rw [← qa.length, ← qb.length]
    exact lim_size hz
  · obtain ⟨hz, h⟩ := guard_ok h
    cases h
    refine ⟨_, op_catP, fun H1 H x y n1 n2 Q rx ry e k => ?_⟩
    obtain ⟨a, xs, rfl, ha, qa⟩ := r1_tup rx
    obtain ⟨b, ys, rfl, hb, qb⟩ := r1_tup ry
    have qq := (reps_and1 (n2 := n2) qa).app (reps_and2 (n1 := n1) qb)
    refine ⟨a, b, xs, ys, rfl, rfl, ha.sq, hb.sq, ?_, fun z => ?_, fun _ z => ?_, fun _ _ p o hp ho => k _ _ (Ext.new jk hp) (res_tup jk hp ho qq)⟩
    · rw [← qa.length, ← qb.length]
      exact lim_size hz
    · subst z
      cases qa
      exact k _ _ (.refl _) (.tup hb qq)
    · subst z
      cases qb
      exact k _ _ (.refl _) (.tup ha (List.append_nil xs ▸ qq))
  · obtain ⟨hz, h⟩ := guard_ok h
    cases h
    refine ⟨_, op_add_str, fun H1 H x y n1 n2 Q rx ry e k => ?_⟩
    obtain rfl := r1_str rx
    obtain rfl := r1_str ry
    exact ⟨_, _, rfl, rfl, lim_size hz, k _ _ (.refl _) (.str _)⟩
  · cases h
    refine ⟨_, op_sub, fun H1 H x y n1 n2 Q rx ry e k => ?_⟩
    obtain rfl := r1_int rx
    obtain rfl := r1_int ry
    exact ⟨_, _, rfl, rfl, k _ _ (.refl _) (.int _)⟩
  · obtain ⟨hz, h⟩ := guard_ok h
    cases h
    refine ⟨_, op_mul, fun H1 H x y n1 n2 Q rx ry e k => ?_⟩
    obtain rfl := r1_int rx
    obtain rfl := r1_int ry
    exact ⟨_, _, rfl, rfl, hz, k _ _ (.refl _) (.int _)⟩
  · obtain ⟨⟨h1, h2, hz⟩, h⟩ := guard_ok h
    cases h
    refine ⟨_, op_rep, fun H1 H x y n1 n2 Q rx ry e k => ?_⟩
    obtain ⟨a, xs, rfl, ha, qa⟩ := r1_lst rx
    obtain rfl := r1_int ry
    refine ⟨a, _, xs, rfl, rfl, ha, h1, h2, ?_, fun p hp => k _ _ (Ext.new jk hp) (res_lst jk hp e (reps_flat _ (reps_and1 qa)))⟩
    rw [← qa.length]
    exact lim_size hz
  · obtain ⟨hz, h⟩ := guard_ok h
    cases h
    refine ⟨_, op_fdiv, fun H1 H x y n1 n2 Q rx ry e k => ?_⟩
    obtain rfl := r1_int rx
    obtain rfl := r1_int ry
    exact ⟨_, _, rfl, rfl, hz, k _ _ (.refl _) (.int _)⟩
  · obtain ⟨hz, h⟩ := guard_ok h
    cases h
    refine ⟨_, op_mod, fun H1 H x y n1 n2 Q rx ry e k => ?_⟩
    obtain rfl := r1_int rx
    obtain rfl := r1_int ry
    exact ⟨_, _, rfl, rfl, hz, k _ _ (.refl _) (.int _)⟩
  · obtain ⟨hz, h⟩ := guard_ok h
    cases h
    refine ⟨_, op_pow, fun H1 H x y n1 n2 Q rx ry e k => ?_⟩
    obtain rfl := r1_int rx
    obtain rfl := r1_int ry
    exact ⟨_, _, rfl, rfl, hz, k _ _ (.refl _) (.int _)⟩
  · cases h
/-! ### comparisons -/
mutual
theorem rep_dp {H : Hp} {N : Addr → Prop} : ∀ {d : D} {v : V}, pyOk d = true → Rep X.K H N d v → Dp X.K H v (py d)
  | _, _, _, .non => .non
  | _, _, _, .bl b => .bl b
  | _, _, _, .int i => .int i
  | _, _, _, .str x => .str x
  | _, _, h, .opq _ => by simp [pyOk] at h
  | _, _, h, .prs q r => by simp [pyOk] at h
  | _, _, h, .tup q r => .tup q.sq (reps_dp (by simpa [pyOk] using h) r)
  | _, _, h, .frz q r => .lst q.sq (reps_dp (by simpa [pyOk] using h) r)
  | _, _, h, .lst n q r => .lst (.of q) (reps_dp (by simpa [pyOk] using h) r)
  | _, _, h, .dct _ _ _ => by simp [pyOk] at h
theorem reps_dp {H : Hp} {N : Addr → Prop} : ∀ {ds : List D} {vs : List V}, pyOkL ds = true → Reps X.K H N ds vs → DpAll X.K H vs (pyL ds)
  | _, _, _, .nil => .nil
  | _, _, h, .cons r q => by
    have h' := Bool.and_eq_true_iff.mp (show (pyOk _ && pyOkL _) = true from h)
    exact .cons (rep_dp h'.1 r) (reps_dp h'.2 q)
end
theorem r1_py (h : pyOk d = true) (r : Rep1 X.K H N d v) : Dp X.K H v (py d) := rep_dp h r.any
theorem flat_rep {H : Hp} {N : Addr → Prop} (h : flatD d = true) (r : Rep X.K H N d v) : v = flatVD d ∧ flatV v = true := by
  cases r <;> first
    | exact ⟨rfl, rfl⟩
    | cases h
theorem flat_reps {H : Hp} {N : Addr → Prop} : ∀ {ds : List D} {vs : List V}, ds.all flatD = true → Reps X.K H N ds vs → vs = ds.map flatVD ∧ vs.all flatV = true
  | _, _, _, .nil => ⟨rfl, rfl⟩
  | d :: ds, _, h, .cons r q => by
    rw [List.all_cons, Bool.and_eq_true] at h
    obtain ⟨h1, h2⟩ := flat_rep h.1 r
    obtain ⟨h3, h4⟩ := flat_reps h.2 q
    refine ⟨by rw [h1, h3, List.map_cons], ?_⟩
    rw [List.all_cons, h2, h4]
    rfl
theorem in_eq (x : D) (ds : List D) : inV (flatVD x) (ds.map flatVD) = dIn x ds := by
  unfold inV dIn
  rw [List.any_map]
  rfl
theorem key_rep {k : Key} {H : Hp} {N : Addr → Prop} (h : keyD d = some k) (r : Rep X.K H N d v) : v = kV k := by
  cases r <;> first
    | (cases h; done)
    | (cases (Option.some.inj h); rfl)
theorem look_rep {k : Key} {H : Hp} {N : Addr → Prop} : ∀ {kd : List (Key × D)} {kv : List (Key × V)}, RepK X.K H N kd kv → match lookD kd k with
    | some d => ∃ v, valV kv k = some v ∧ Rep X.K H N d v
    | none => valV kv k = none
  | _, _, .nil => rfl
  | (j, d) :: ds, _, .cons (v := v) r q => by
    by_cases e : j = k
    · have e1 : lookD ((j, d) :: ds) k = some d := by simp [lookD, List.find?_cons, e]
      rw [e1]
      exact ⟨v, valV_pos e, r⟩
    · have e1 : lookD ((j, d) :: ds) k = lookD ds k := by simp [lookD, List.find?_cons, e]
      rw [e1, valV_neg (p := (j, v)) e]
      exact look_rep q
theorem any_rep {k : Key} {H : Hp} {N : Addr → Prop} : ∀ {kd : List (Key × D)} {kv : List (Key × V)}, RepK X.K H N kd kv → (kd.any fun kv => decide (kv.1 = k)) = (kv.any fun kv => decide (kv.1 = k))
  | _, _, .nil => rfl
  | _, _, .cons r q => by rw [List.any_cons, List.any_cons, any_rep q]
theorem map_rep {k : Key} {H : Hp} {N : Addr → Prop} (r0 : Rep X.K H N d v) : ∀ {kd : List (Key × D)} {kv : List (Key × V)}, RepK X.K H N kd kv → RepK X.K H N (kd.map fun kv => if kv.1 = k then (kv.1, d) else kv) (kv.map fun kv => if kv.1 = k then (kv.1, v) else kv)
  | _, _, .nil => .nil
  | (j, d) :: ds, _, .cons r q => by
    rw [List.map_cons, List.map_cons]
    by_cases e : j = k
    · rw [if_pos e, if_pos e]
      exact .cons r0 (map_rep r0 q)
    · rw [if_neg e, if_neg e]
      exact .cons r (map_rep r0 q)
theorem snoc_rep {k : Key} {H : Hp} {N : Addr → Prop} (r0 : Rep X.K H N d v) : ∀ {kd : List (Key × D)} {kv : List (Key × V)}, RepK X.K H N kd kv → RepK X.K H N (kd ++ [(k, d)]) (kv ++ [(k, v)])
  | _, _, .nil => .cons r0 .nil
  | _, _, .cons r q => .cons r (snoc_rep r0 q)
theorem put_rep {k : Key} {H : Hp} {N : Addr → Prop} {kd : List (Key × D)} {kv : List (Key × V)} (r0 : Rep X.K H N d v) (q : RepK X.K H N kd kv) : RepK X.K H N (putD kd k d) (putK kv k v) := by
  unfold putD putK
  rw [any_rep q]
  split
  · exact map_rep r0 q
  · exact snoc_rep r0 q
theorem repK_length {H : Hp} {N : Addr → Prop} : ∀ {kd : List (Key × D)} {kv : List (Key × V)}, RepK X.K H N kd kv → kd.length = kv.length
  | _, _, .nil => rfl
  | _, _, .cons _ q => congrArg (· + 1) (repK_length q)
theorem op_in_dict (hu : X.A.units + 1 < cLine) : OpR X (compareOp .In) (fun x y H Q => ∃ a o, y = V.ref a ∧ DGet H a x o ∧ Q (.bl o.isSome) H) := by
  intro pins s σ H x y v u Q I rx ry h
  obtain ⟨a, o, rfl, g, q⟩ := h
  cases ry
  exact d_in hu I g rx fun s' I' => ⟨.bl _, H, I', rfl, q⟩
theorem op_notIn_dict (hu : X.A.units + 1 < cLine) : OpR X (compareOp .NotIn) (fun x y H Q => ∃ a o, y = V.ref a ∧ DGet H a x o ∧ Q (.bl (!o.isSome)) H) := by
  intro pins s σ H x y v u Q I rx ry h
  obtain ⟨a, o, rfl, g, q⟩ := h
  cases ry
  exact d_notIn hu I g rx fun s' I' => ⟨.bl _, H, I', rfl, q⟩
abbrev CmpP (X : Cx) (H0 : Hp) (B : Addr → Prop) (ρ : Env) (σ : St) (dx dy d : D) (r : R2) : Prop :=
  ∀ (H : Hp) (x y : V) (n1 n2 : Bool) (Q : VK), Rep1 X.K H (NN H0 B ρ σ n1) dx x → Rep1 X.K H (NN H0 B ρ σ n2) dy y → (∀ b, d = .bl b → Q (.bl b) H) → r x y H Q
theorem decN {x : V} {dx : D} (h : isOpq dx = false) (r : Rep1 X.K H N dx x) : decide (x = .non) = isNon dx := by
  have r' := r.any
  cases r' <;> first
    | rfl
    | (cases h; done)
    | simp [isNon]
theorem in_rule (hu : X.A.units + 65 < cLine) {neg : Bool} {dx dy d : D} (h : dInAny neg dx dy = .ok d) : ∃ r, OpR X (compareOp (if neg then .NotIn else .In)) r ∧ CmpP X H0 B ρ σ dx dy d r := by
  unfold dInAny at h
  split at h
  · rename_i ys0
    by_cases hf : flatD dx = true ∧ ys0.all flatD = true
    · rw [if_pos hf] at h
      obtain ⟨h1, h2⟩ := hf
      cases h
      refine ⟨rIn X.K neg, by cases neg <;> first | exact op_in_seq | exact op_notIn_seq, fun H x y n1 n2 Q rx ry k => ?_⟩
      obtain ⟨a, xs, rfl, ha, qa⟩ := r1_lst ry
      obtain ⟨e1, f1⟩ := flat_rep h1 rx.any
      obtain ⟨e2, f2⟩ := flat_reps h2 qa
      refine ⟨a, xs, rfl, .inl (.of ha), f1, f2, ?_⟩
      rw [e1, e2, in_eq]
      exact k _ rfl
    · rw [if_neg hf] at h
      obtain ⟨⟨h1, h2⟩, h⟩ := guard_ok h
      cases h
      have h1 := Bool.and_eq_true_iff.mp (show (pyOk _ && SeqAt.shaped _) = true from h1)
      have h2 := Bool.and_eq_true_iff.mp (show (pyOk _ && SeqAt.shaped _) = true from h2)
      cases neg with
      | false => exact ⟨_, op_inD hu, fun H x y n1 n2 Q rx ry k => ⟨_, _, r1_py h1.1 rx, r1_py h2.1 ry, h1.2, h2.2, k _ rfl⟩⟩
      | true => exact ⟨_, op_notInD hu, fun H x y n1 n2 Q rx ry k => ⟨_, _, r1_py h1.1 rx, r1_py h2.1 ry, h1.2, h2.2, k _ rfl⟩⟩
  · obtain ⟨⟨h1, h2⟩, h⟩ := guard_ok h
    cases h
    refine ⟨rIn X.K neg, by cases neg <;> first | exact op_in_seq | exact op_notIn_seq, fun H x y n1 n2 Q rx ry k => ?_⟩
    obtain ⟨a, xs, rfl, ha, qa⟩ := r1_tup ry
    obtain ⟨e1, f1⟩ := flat_rep h1 rx.any
    obtain ⟨e2, f2⟩ := flat_reps h2 qa
    refine ⟨a, xs, rfl, .inr ha.sq, f1, f2, ?_⟩
    rw [e1, e2, in_eq]
    exact k _ rfl
  · split at h
    · rename_i kvs _ k hk
      cases h
      have fin : ∀ (H : Hp) (x y : V) (n1 n2 : Bool), Rep1 X.K H (NN H0 B ρ σ n1) dx x → Rep1 X.K H (NN H0 B ρ σ n2) (.dct kvs) y → ∃ a o, y = V.ref a ∧ DGet H a x o ∧ o.isSome = (lookD kvs k).isSome := fun H x y n1 n2 rx ry => by
        obtain ⟨a, vs, rfl, ha, qa⟩ := r1_dct ry
        obtain rfl := key_rep hk rx.any
        refine ⟨a, valV vs k, rfl, DGet.k ha, ?_⟩
        have q := look_rep (k := k) qa
        cases e : lookD kvs k with
        | none => rw [e] at q; rw [q]; rfl
        | some d => rw [e] at q; obtain ⟨v, hv, _⟩ := q; rw [hv]; rfl
      cases neg with
      | true =>
        refine ⟨_, op_notIn_dict (by omega), fun H x y n1 n2 Q rx ry k => ?_⟩
        obtain ⟨a, o, e, g, q⟩ := fin H x y n1 n2 rx ry
        exact ⟨a, o, e, g, by rw [q]; exact k _ rfl⟩
      | false =>
        refine ⟨_, op_in_dict (by omega), fun H x y n1 n2 Q rx ry k => ?_⟩
        obtain ⟨a, o, e, g, q⟩ := fin H x y n1 n2 rx ry
        exact ⟨a, o, e, g, by rw [q]; exact k _ rfl⟩
    · cases h
  · cases h
theorem flat_eq {d e : D} {x y : V} {H : Hp} {N N' : Addr → Prop} (h : flatEq d e = true) (r : Rep X.K H N d x) (q : Rep X.K H N' e y) : x = y ∧ flatB x = true := by
  cases r <;> cases q <;> first
    | (cases h; done)
    | exact ⟨rfl, rfl⟩
    | (obtain rfl := of_decide_eq_true h; exact ⟨rfl, rfl⟩)
theorem rep_mem {H : Hp} {N : Addr → Prop} : ∀ {kd : List (Key × D)} {kv : List (Key × V)}, RepK X.K H N kd kv → ∀ p ∈ kv, ∃ d, (p.1, d) ∈ kd ∧ Rep X.K H N d p.2
  | _, _, .nil, p, h => by cases h
  | (j, d) :: ds, _, .cons r q, p, h => by
    rcases List.mem_cons.mp h with e | e
    · subst e; exact ⟨d, List.mem_cons_self, r⟩
    · obtain ⟨d, h1, h2⟩ := rep_mem q p e
      exact ⟨d, List.mem_cons_of_mem _ h1, h2⟩
theorem eqK_rep {H : Hp} {N N' : Addr → Prop} {ka kb : List (Key × D)} {va vb : List (Key × V)} (h : dEqK ka kb = true) (r : RepK X.K H N ka va) (q : RepK X.K H N' kb vb) : va.length = vb.length ∧ ∀ p ∈ va, valV vb p.1 = some p.2 ∧ flatB p.2 = true := by
  obtain ⟨h1, h2⟩ := Bool.and_eq_true_iff.mp h
  refine ⟨by rw [← repK_length r, ← repK_length q]; exact of_decide_eq_true h1, fun p hp => ?_⟩
  obtain ⟨d, hd, rd⟩ := rep_mem r p hp
  have h3 := List.all_eq_true.mp h2 _ hd
  have h4 := look_rep (k := p.1) q
  dsimp only at h3
  cases e : lookD kb p.1 with
  | none => rw [e] at h3; cases h3
  | some d' =>
    rw [e] at h3 h4
    obtain ⟨v, hv, rv⟩ := h4
    obtain ⟨e1, e2⟩ := flat_eq h3 rd rv
    exact ⟨by rw [hv, e1], e2⟩
theorem cmp_rule (hu : X.A.units + 65 < cLine) {op : CmpOp} {dx dy d : D} (h : dCmp op dx dy = .ok d) : ∃ r, OpR X (compareOp op) r ∧ CmpP X H0 B ρ σ dx dy d r := by
  have hu1 : X.A.units + 64 < cLine := by omega
  unfold dCmp at h
  split at h
  · obtain ⟨h1, h⟩ := guard_ok h
    cases h
    refine ⟨_, op_eq_dictA (by omega), fun H x y n1 n2 Q rx ry k => ?_⟩
    obtain ⟨a, va, rfl, ha, qa⟩ := r1_dct rx
    obtain ⟨b, vb, rfl, hb, qb⟩ := r1_dct ry
    obtain ⟨e1, e2⟩ := eqK_rep h1 qa qb
    exact ⟨a, b, va, vb, rfl, rfl, ha, hb, e1, e2, k _ rfl⟩
  · obtain ⟨h1, h⟩ := guard_ok h
    cases h
    refine ⟨_, op_ne_dictA (by omega), fun H x y n1 n2 Q rx ry k => ?_⟩
    obtain ⟨a, va, rfl, ha, qa⟩ := r1_dct rx
    obtain ⟨b, vb, rfl, hb, qb⟩ := r1_dct ry
    obtain ⟨e1, e2⟩ := eqK_rep h1 qa qb
    exact ⟨a, b, va, vb, rfl, rfl, ha, hb, e1, e2, k _ rfl⟩
  · obtain ⟨⟨h1, h2⟩, h⟩ := guard_ok h
    cases h
    have h1 := Bool.and_eq_true_iff.mp (show (pyOk _ && SeqAt.shaped _) = true from h1)
    have h2 := Bool.and_eq_true_iff.mp (show (pyOk _ && SeqAt.shaped _) = true from h2)
    exact ⟨_, op_eqD hu1, fun H x y n1 n2 Q rx ry k => ⟨_, _, r1_py h1.1 rx, r1_py h2.1 ry, h1.2, h2.2, k _ rfl⟩⟩
  · obtain ⟨⟨h1, h2⟩, h⟩ := guard_ok h
    cases h
    have h1 := Bool.and_eq_true_iff.mp (show (pyOk _ && SeqAt.shaped _) = true from h1)
    have h2 := Bool.and_eq_true_iff.mp (show (pyOk _ && SeqAt.shaped _) = true from h2)
    exact ⟨_, op_neD hu1, fun H x y n1 n2 Q rx ry k => ⟨_, _, r1_py h1.1 rx, r1_py h2.1 ry, h1.2, h2.2, k _ rfl⟩⟩
  · cases h
    exact ⟨_, op_lt, fun H x y n1 n2 Q rx ry k => ⟨_, _, r1_int rx, r1_int ry, k _ rfl⟩⟩
  · cases h
    exact ⟨_, op_le, fun H x y n1 n2 Q rx ry k => ⟨_, _, r1_int rx, r1_int ry, k _ rfl⟩⟩
  · cases h
    exact ⟨_, op_gt, fun H x y n1 n2 Q rx ry k => ⟨_, _, r1_int rx, r1_int ry, k _ rfl⟩⟩
  · cases h
    exact ⟨_, op_ge, fun H x y n1 n2 Q rx ry k => ⟨_, _, r1_int rx, r1_int ry, k _ rfl⟩⟩
  · exact in_rule (neg := false) hu h
  · exact in_rule (neg := true) hu h
  · obtain ⟨h1, h⟩ := guard_ok h
    cases h
    refine ⟨_, op_isN, fun H x y n1 n2 Q rx ry k => ⟨r1_non ry, ?_⟩⟩
    rw [decN h1 rx]
    exact k _ rfl
  · obtain ⟨h1, h⟩ := guard_ok h
    cases h
    refine ⟨_, op_notN, fun H x y n1 n2 Q rx ry k => ⟨r1_non ry, ?_⟩⟩
    rw [decN h1 rx]
    exact k _ rfl
  · cases h
end
end PyV
namespace PyV
open PySem L2
section
variable {X : Cx} {J : Hp → Prop} {H0 H H1 : Hp} {B : Addr → Prop} {ρ : Env} {σ : St} {n1 n2 n : Bool} {N : Addr → Prop} {d : D} {v x y : V}
theorem atI_rep {ds : List D} {xs : List V} {i : Int} (h : atI ds i = some d) (q : Reps X.K H N ds xs) : ∃ v, atI xs i = some v ∧ Rep X.K H N d v := by
  unfold atI at h ⊢
  rw [← q.length]
  cases e : ixN ds.length i with
  | none => rw [e] at h; cases h
  | some j =>
    rw [e] at h
    exact q.get h
theorem ofO_ok {α : Type} {o : Option α} {a : α} (h : ofO o = .ok a) : o = some a := by
  cases o with
  | none => cases h
  | some b => cases h; rfl
abbrev IxP (X : Cx) (H0 : Hp) (B : Addr → Prop) (ρ : Env) (σ : St) (dx dy d : D) (r : R2) : Prop :=
  ∀ (H1 H : Hp) (x y : V) (n1 n2 : Bool) (Q : VK), Rep1 X.K H (NN H0 B ρ σ n1) dx x → Rep1 X.K H (NN H0 B ρ σ n2) dy y → (∀ v, ResOk X.K H0 B ρ σ H1 H (elR n1 d).1 (elR n1 d).2 v → Q v H) → r x y H Q
def isDct : D → Bool
  | .dct _ => true
  | _ => false
theorem ix_rule {dx dy d : D} (h : dIx dx dy = .ok d) (hd : isDct dx = false) : ∃ r, IxR X r ∧ IxP X H0 B ρ σ dx dy d r := by
  unfold dIx at h
  split at h
  · have h := ofO_ok h
    refine ⟨_, ix_list, fun H1 H x y n1 n2 Q rx ry k => ?_⟩
    obtain ⟨a, xs, rfl, ha, qa⟩ := r1_lst rx
    obtain rfl := r1_int ry
    obtain ⟨v, hv, rv⟩ := atI_rep h qa
    exact ⟨a, xs, _, v, rfl, rfl, .of ha, hv, k v (res_pl rv)⟩
  · have h := ofO_ok h
    refine ⟨_, ix_list, fun H1 H x y n1 n2 Q rx ry k => ?_⟩
    obtain ⟨a, xs, rfl, ha, qa⟩ := r1_frz rx
    obtain rfl := r1_int ry
    obtain ⟨v, hv, rv⟩ := atI_rep h qa
    exact ⟨a, xs, _, v, rfl, rfl, ha.sq, hv, k v (res_pl rv)⟩
  · have h := ofO_ok h
    refine ⟨_, ix_tup, fun H1 H x y n1 n2 Q rx ry k => ?_⟩
    obtain ⟨a, xs, rfl, ha, qa⟩ := r1_tup rx
    obtain rfl := r1_int ry
    obtain ⟨v, hv, rv⟩ := atI_rep h qa
    exact ⟨a, xs, _, v, rfl, rfl, ha.sq, hv, k v (res_pl rv)⟩
  · obtain ⟨hz, h⟩ := guard_ok h
    have h := ofO_ok h
    obtain ⟨c, hc, rfl⟩ := Option.map_eq_some_iff.mp h
    refine ⟨_, ix_str, fun H1 H x y n1 n2 Q rx ry k => ?_⟩
    obtain rfl := r1_str rx
    obtain rfl := r1_int ry
    exact ⟨_, _, c, rfl, rfl, lim_size hz, hc, k _ (.str _)⟩
  · cases hd
  · cases h
theorem cut_reps {ds : List D} {xs : List V} {lo hi : Option Int} (q : Reps X.K H N ds xs) : Reps X.K H N (cutD ds lo hi) (cutV xs lo hi) := by
  unfold cutD cutV
  rw [← q.length]
  exact (q.drop _).take _
abbrev SlP (X : Cx) (J : Hp → Prop) (H0 : Hp) (B : Addr → Prop) (ρ : Env) (σ : St) (dx d : D) (lo hi : Option Int) (r : V → Option Int → Option Int → Hp → VK → Prop) : Prop :=
  ∀ (H1 H : Hp) (x : V) (n1 : Bool) (Q : VK), Rep1 X.K H (NN H0 B ρ σ n1) dx x → Ext J H1 H → (∀ v H', Ext J H H' → ResOk X.K H0 B ρ σ H1 H' (mkR n1 d).1 (mkR n1 d).2 v → Q v H') → r x lo hi H Q
theorem whole_cut {ds : List D} {lo hi : Option Int} (h : HT.sIx ds.length 0 lo = 0 ∧ HT.sIx ds.length ds.length hi = ds.length) : cutD ds lo hi = ds := by
  unfold cutD
  rw [h.1, h.2]
  simp
theorem sl_rule (jk : JOk J) {dx d : D} {lo hi : Option Int} (h : dSl dx lo hi = .ok d) : ∃ r, SlR X r ∧ SlP X J H0 B ρ σ dx d lo hi r := by
  unfold dSl at h
  split at h
  · cases h
    refine ⟨_, sl_list, fun H1 H x n1 Q rx e k => ?_⟩
    obtain ⟨a, xs, rfl, ha, qa⟩ := r1_lst rx
    exact ⟨a, xs, rfl, .of ha, fun p hp => k _ _ (Ext.new jk hp) (res_lst jk hp e (cut_reps qa))⟩
  · cases h
    refine ⟨_, sl_list, fun H1 H x n1 Q rx e k => ?_⟩
    obtain ⟨a, xs, rfl, ha, qa⟩ := r1_frz rx
    exact ⟨a, xs, rfl, ha.sq, fun p hp => k _ _ (Ext.new jk hp) (res_lst jk hp e (cut_reps qa))⟩
  · cases h
    refine ⟨_, sl_tupP, fun H1 H x n1 Q rx e k => ?_⟩
    obtain ⟨a, xs, rfl, ha, qa⟩ := r1_tup rx
    refine ⟨a, xs, rfl, ha.sq, fun z => ?_, fun z p o hp ho => k _ _ (Ext.new jk hp) (res_tup jk hp ho (cut_reps qa))⟩
    rw [← qa.length] at z
    refine k _ _ (.refl _) ?_
    rw [whole_cut z]
    exact .tup ha qa
  · obtain ⟨hz, h⟩ := guard_ok h
    cases h
    refine ⟨_, sl_str, fun H1 H x n1 Q rx e k => ?_⟩
    obtain rfl := r1_str rx
    exact ⟨_, rfl, lim_size hz, k _ _ (.refl _) (.str _)⟩
  · cases h
/-! ### built-in functions and types, called -/
def Blt.val : Blt → Value
  | .len => .builtin "len" | .list => .type "list" | .tuple => .type "tuple" | .int => .type "int" | .str => .type "str" | .min => .builtin "min" | .max => .builtin "max" | .sorted => .builtin "sorted" | .all => .builtin "all" | .isi => .builtin "isinstance" | .dict => .type "dict" | .sset => .builtin "sorted"
theorem blt_boot (b : Blt) : bootBuiltins b.name = some b.val := by cases b <;> decide +kernel
theorem blt_in (b : Blt) : b.name ∈ builtinNames := by cases b <;> decide +kernel
theorem blt_nn (b : Blt) : b.name ≠ "__name__" := by cases b <;> decide +kernel
theorem ty_of {H : Hp} {N : Addr → Prop} {a : String} (h : tyName d = some a) (r : Rep1 X.K H N d v) : TyX X.K H v (.type a) := by
  cases d with
  | non => cases h; rw [r1_non r]; exact .base .non
  | bl b => cases h; rw [r1_bl r]; exact .base (.bl _)
  | int b => cases h; rw [r1_int r]; exact .base (.int _)
  | str b => cases h; rw [r1_str r]; exact .base (.str _)
  | opq b => cases h
  | frz b => cases h
  | prs b => cases h
  | lst ds => cases h; obtain ⟨a, xs, rfl, ha, qa⟩ := r1_lst r; exact .base (.lst ha)
  | dct ds => cases h; obtain ⟨a, xs, rfl, ha, qa⟩ := r1_dct r; exact .base (.dK ha)
  | tup ds =>
    cases h
    obtain ⟨a, xs, rfl, ha, qa⟩ := r1_tup r
    rcases ha.sq with (ha | ⟨o, ha⟩) | ⟨o, its, n, h1, h2, _⟩
    · exact .base (.tup ha)
    · exact .fTuple ha
    · exact .kTuple h1 h2
abbrev BltP (X : Cx) (J : Hp → Prop) (H0 : Hp) (B : Addr → Prop) (ρ : Env) (σ : St) (rs : List R) (d : D) (r : List V → Hp → VK → Prop) : Prop :=
  ∀ (H1 H : Hp) (vs : List V) (Q : VK), Fr J X.K H0 B ρ σ H → Ext J H1 H → ResAll H0 B X.K ρ σ H1 H rs vs → (∀ v H', Ext J H H' → ResOk X.K H0 B ρ σ H1 H' (mkR (allNew rs) d).1 (mkR (allNew rs) d).2 v → Q v H') → r vs H Q
theorem all1 {r1 : R} {H1 H : Hp} {vs : List V} (f : Fr J X.K H0 B ρ σ H) (h : ResAll H0 B X.K ρ σ H1 H [r1] vs) : ∃ v, vs = [v] ∧ Rep1 X.K H (NN H0 B ρ σ (allNew [r1])) r1.2 v := by
  obtain ⟨v, vr, rfl, q, e⟩ := h
  subst e
  refine ⟨v, rfl, ?_⟩
  have : allNew [r1] = r1.1.new := by simp [allNew]
  rw [this]
  exact q.rep1 f
theorem all2 {r1 r2 : R} {H1 H : Hp} {vs : List V} (f : Fr J X.K H0 B ρ σ H) (h : ResAll H0 B X.K ρ σ H1 H [r1, r2] vs) : ∃ v w, vs = [v, w] ∧ Rep1 X.K H (NN H0 B ρ σ r1.1.new) r1.2 v ∧ Rep1 X.K H (NN H0 B ρ σ r2.1.new) r2.2 w := by
  obtain ⟨v, vr, rfl, q, w, wr, rfl, q2, e⟩ := h
  subst e
  exact ⟨v, w, rfl, q.rep1 f, q2.rep1 f⟩
theorem map1 {rs : List R} {a : D} (h : rs.map (·.2) = [a]) : ∃ r, rs = [r] ∧ r.2 = a := by
  cases rs with
  | nil => cases h
  | cons r rs =>
    rw [List.map_cons] at h
    injection h with h1 h2
    cases rs with
    | nil => exact ⟨r, rfl, h1⟩
    | cons r rs => cases h2
theorem map2 {rs : List R} {a b : D} (h : rs.map (·.2) = [a, b]) : ∃ r q, rs = [r, q] ∧ r.2 = a ∧ q.2 = b := by
  cases rs with
  | nil => cases h
  | cons r rs =>
    rw [List.map_cons] at h
    injection h with h1 h2
    obtain ⟨q, rfl, h3⟩ := map1 h2
    exact ⟨r, q, rfl, h1, h3⟩
theorem merge_rep {H : Hp} {P : Addr → Prop} : ∀ {kvs acc : List (Key × D)} {vs avs : List (Key × V)}, RepK X.K H P acc avs → RepK X.K H P kvs vs → RepK X.K H P (mergeD acc kvs) (mergeK avs vs)
  | [], _, _, _, r0, .nil => r0
  | (j, d) :: ds, acc, _, avs, r0, .cons (v := v) (vs := vs) r q => merge_rep (kvs := ds) (acc := putD acc j d) (vs := vs) (avs := putK avs j v) (put_rep r r0) q
theorem pairsT_rep {H : Hp} {P : Addr → Prop} : ∀ {ds : List D} {kvs : List (Key × D)} {xs : List V}, pairsT ds = some kvs → Reps X.K H P ds xs → ∃ (ps : List Addr) (vs : List (Key × V)), xs = ps.map V.ref ∧ Paired (fun p kv => SqT X.K H p [kV kv.1, kv.2]) ps vs ∧ RepK X.K H P kvs vs
  | [], _, _, h, .nil => by cases h; exact ⟨[], [], rfl, .nil, .nil⟩
  | d :: ds, _, _, h, .cons r q => by
    unfold pairsT at h
    split at h
    · rename_i heq; cases heq
    · rename_i kd vd ds' heq
      cases heq
      split at h
      · rename_i key ps' hk hp
        cases h
        obtain ⟨ps, vs, e1, e2, e3⟩ := pairsT_rep hp q
        cases r with
        | @tup _ a xs' _ h1 q1 =>
          cases q1 with
          | cons r1 q1 =>
            cases q1 with
            | cons r2 q1 =>
              cases q1
              obtain rfl := key_rep (X := X) hk r1
              exact ⟨a :: ps, (key, _) :: vs, by rw [e1, List.map_cons], .cons h1.sq e2, .cons r2 e3⟩
      · cases h
    · cases h
theorem bls_rep {H : Hp} {N : Addr → Prop} : ∀ {ds : List D} {vs : List V} {bs : List Bool}, blsD ds = some bs → Reps X.K H N ds vs → vs = bs.map V.bl
  | [], _, bs, h, .nil => by cases h; rfl
  | d :: ds, _, bs, h, .cons r q => by
    cases d with
    | bl b =>
      rw [blsD] at h
      cases e : blsD ds with
      | none => rw [e] at h; cases h
      | some cs =>
        rw [e] at h
        cases h
        cases r
        rw [bls_rep e q]
        rfl
    | _ => cases h
theorem repK_new {H : Hp} {N : Addr → Prop} {p : Addr} {o : HO} {ds : List (Key × D)} {xs : List (Key × V)} (jk : JOk J) (h : H p = none) (r : RepK X.K H N ds xs) : RepK X.K (upd H p o) (But N p) ds xs :=
  RepK.ext (J := J) (Ext.new jk h) (r.sub fun a q hn => ⟨q, fun z => hn (z ▸ h)⟩)
theorem ints_rep : ∀ {ds : List D} {ns : List Int} {H : Hp} {N : Addr → Prop} {vs : List V}, intsD ds = some ns → Reps X.K H N ds vs → vs = ns.map V.int ∧ ds = ns.map D.int
  | [], ns, _, _, _, h, r => by
    cases h
    cases r
    exact ⟨rfl, rfl⟩
  | d :: ds, ns, _, _, _, h, r => by
    cases d with
    | int i =>
      have h : (intsD ds).map (i :: ·) = some ns := h
      cases e : intsD ds with
      | none => rw [e] at h; cases h
      | some ms =>
        rw [e] at h
        cases h
        cases r with
        | cons r q =>
          cases r
          obtain ⟨h1, h2⟩ := ints_rep e q
          exact ⟨by rw [h1]; rfl, by rw [h2]; rfl⟩
    | _ => cases h
theorem zip_rep {H : Hp} {N : Addr → Prop} : ∀ {ds : List D} {vs : List V}, Reps X.K H N ds vs → ∀ p ∈ ds.zip vs, Rep X.K H N p.1 p.2
  | _, _, .nil, p, h => by cases h
  | _, _, .cons r q, p, h => by
    rw [List.zip_cons_cons] at h
    rcases List.mem_cons.mp h with e | e
    · subst e; exact r
    · exact zip_rep q p e
theorem rep_zip {H : Hp} {N : Addr → Prop} : ∀ {zs : List (D × V)}, (∀ p ∈ zs, Rep X.K H N p.1 p.2) → Reps X.K H N (zs.map (·.1)) (zs.map (·.2))
  | [], _ => .nil
  | z :: zs, h => .cons (h z List.mem_cons_self) (rep_zip fun p hp => h p (List.mem_cons_of_mem _ hp))
theorem pyL_map : ∀ ds : List D, pyL ds = ds.map py
  | [] => rfl
  | d :: ds => congrArg (py d :: ·) (pyL_map ds)
theorem sort_rep {H : Hp} {N : Addr → Prop} {ds : List D} {vs : List V} (r : Reps X.K H N ds vs) : Reps X.K H N (sortD ds) (((((ds.zip vs).map fun p => ((py p.1, p.2) : PyData × V)).mergeSort (PySem.W.dataLe false (·.1)))).map (·.2)) := by
  have hl := r.length
  have e1 : ((ds.zip vs).mergeSort (fun a b => !dLtD b.1 a.1)).map (fun p => ((py p.1, p.2) : PyData × V)) = ((ds.zip vs).map fun p => ((py p.1, p.2) : PyData × V)).mergeSort (PySem.W.dataLe false (·.1)) := List.map_mergeSort fun _ _ _ _ => rfl
  have e2 : ((ds.zip vs).mergeSort (fun a b => !dLtD b.1 a.1)).map (·.1) = ((ds.zip vs).map (·.1)).mergeSort (fun a b => !dLtD b a) := List.map_mergeSort fun _ _ _ _ => rfl
  have e3 : (ds.zip vs).map (·.1) = ds := List.map_fst_zip (by omega)
  rw [← e1, List.map_map]
  unfold sortD
  rw [e3] at e2
  rw [← e2]
  exact rep_zip fun p hp => zip_rep r p ((List.mergeSort_perm _ _).mem_iff.mp hp)
theorem max_fold : ∀ (is : List Int) (i : Int), (is.foldl (fun a b => if a < b then b else a) i = i ∨ is.foldl (fun a b => if a < b then b else a) i ∈ is) ∧ i ≤ is.foldl (fun a b => if a < b then b else a) i ∧ ∀ y ∈ is, y ≤ is.foldl (fun a b => if a < b then b else a) i
  | [], i => ⟨.inl rfl, Int.le_refl _, fun y h => by cases h⟩
  | x :: is, i => by
    obtain ⟨h1, h2, h3⟩ := max_fold is (if i < x then x else i)
    rw [List.foldl_cons]
    generalize is.foldl (fun a b => if a < b then b else a) (if i < x then x else i) = m at h1 h2 h3
    refine ⟨?_, by split at h2 <;> omega, fun y hy => ?_⟩
    · rcases h1 with h | h
      · split at h
        · exact .inr (by rw [h]; exact List.mem_cons_self)
        · exact .inl h
      · exact .inr (List.mem_cons_of_mem _ h)
    · rcases List.mem_cons.mp hy with e | e
      · subst e; split at h2 <;> omega
      · exact h3 y e
theorem blt_rule (jk : JOk J) (hc : X.calm = true) (hu : X.A.units + 64 < cLine) {b : Blt} {rs : List R} {d : D} (h : dBlt b (rs.map (·.2)) = .ok d) : ∃ r, CallR X b.val r ∧ BltP X J H0 B ρ σ rs d r := by
  unfold dBlt at h
  split at h
  · cases h
    rename_i e
    obtain ⟨⟨k1, d1⟩, rfl, rfl⟩ := map1 e
    refine ⟨_, call_len_seq, fun H1 H vs Q f e r k => ?_⟩
    obtain ⟨v, rfl, q⟩ := all1 f r
    obtain ⟨a, xs, rfl, ha, qa⟩ := r1_lst q
    exact ⟨a, xs, rfl, .inl (.of ha), by rw [← qa.length]; exact k _ _ (.refl _) (.int _)⟩
  · cases h
    rename_i e
    obtain ⟨⟨k1, d1⟩, rfl, rfl⟩ := map1 e
    refine ⟨_, call_len_seq, fun H1 H vs Q f e r k => ?_⟩
    obtain ⟨v, rfl, q⟩ := all1 f r
    obtain ⟨a, xs, rfl, ha, qa⟩ := r1_tup q
    exact ⟨a, xs, rfl, .inr ha.sq, by rw [← qa.length]; exact k _ _ (.refl _) (.int _)⟩
  · cases h
    rename_i e
    obtain ⟨⟨k1, d1⟩, rfl, rfl⟩ := map1 e
    refine ⟨_, call_len_seq, fun H1 H vs Q f e r k => ?_⟩
    obtain ⟨v, rfl, q⟩ := all1 f r
    obtain ⟨a, xs, rfl, ha, qa⟩ := r1_frz q
    exact ⟨a, xs, rfl, .inl ha.sq, by rw [← qa.length]; exact k _ _ (.refl _) (.int _)⟩
  · obtain ⟨hz, h⟩ := guard_ok h
    cases h
    rename_i e
    obtain ⟨⟨k1, d1⟩, rfl, rfl⟩ := map1 e
    refine ⟨_, call_len_str, fun H1 H vs Q f e r k => ?_⟩
    obtain ⟨v, rfl, q⟩ := all1 f r
    obtain rfl := r1_str q
    exact ⟨_, rfl, lim_size hz, k _ _ (.refl _) (.int _)⟩
  · cases h
    rename_i e
    obtain ⟨⟨k1, d1⟩, rfl, rfl⟩ := map1 e
    refine ⟨_, call_list_of, fun H1 H vs Q f e r k => ?_⟩
    obtain ⟨v, rfl, q⟩ := all1 f r
    obtain ⟨a, xs, rfl, ha, qa⟩ := r1_lst q
    exact ⟨a, xs, rfl, .inl (.of ha), fun p hp => k _ _ (Ext.new jk hp) (res_lst jk hp e qa)⟩
  · cases h
    rename_i e
    obtain ⟨⟨k1, d1⟩, rfl, rfl⟩ := map1 e
    refine ⟨_, call_list_of, fun H1 H vs Q f e r k => ?_⟩
    obtain ⟨v, rfl, q⟩ := all1 f r
    obtain ⟨a, xs, rfl, ha, qa⟩ := r1_tup q
    exact ⟨a, xs, rfl, .inr ha.sq, fun p hp => k _ _ (Ext.new jk hp) (res_lst jk hp e qa)⟩
  · cases h
    rename_i e
    obtain ⟨⟨k1, d1⟩, rfl, rfl⟩ := map1 e
    refine ⟨_, call_list_of, fun H1 H vs Q f e r k => ?_⟩
    obtain ⟨v, rfl, q⟩ := all1 f r
    obtain ⟨a, xs, rfl, ha, qa⟩ := r1_frz q
    exact ⟨a, xs, rfl, .inl ha.sq, fun p hp => k _ _ (Ext.new jk hp) (res_lst jk hp e qa)⟩
  · cases h
    rename_i e
    obtain ⟨⟨k1, d1⟩, rfl, rfl⟩ := map1 e
    refine ⟨_, call_tuple_ofP, fun H1 H vs Q f e r k => ?_⟩
    obtain ⟨v, rfl, q⟩ := all1 f r
    obtain ⟨a, xs, rfl, ha, qa⟩ := r1_lst q
    exact ⟨a, xs, rfl, .inl ⟨.of ha, fun p o hp ho => k _ _ (Ext.new jk hp) (res_tup jk hp ho qa)⟩⟩
  · cases h
    rename_i e
    obtain ⟨⟨k1, d1⟩, rfl, rfl⟩ := map1 e
    refine ⟨_, call_tuple_ofP, fun H1 H vs Q f e r k => ?_⟩
    obtain ⟨v, rfl, q⟩ := all1 f r
    obtain ⟨a, xs, rfl, ha, qa⟩ := r1_tup q
    exact ⟨a, xs, rfl, .inr ⟨ha.sq, k _ _ (.refl _) (.tup ha qa)⟩⟩
  · cases h
    rename_i e
    obtain ⟨⟨k1, d1⟩, rfl, rfl⟩ := map1 e
    refine ⟨_, call_tuple_ofP, fun H1 H vs Q f e r k => ?_⟩
    obtain ⟨v, rfl, q⟩ := all1 f r
    obtain ⟨a, xs, rfl, ha, qa⟩ := r1_frz q
    exact ⟨a, xs, rfl, .inl ⟨ha.sq, fun p o hp ho => k _ _ (Ext.new jk hp) (res_tup jk hp ho qa)⟩⟩
  · cases h
    rename_i e
    obtain ⟨⟨k1, d1⟩, rfl, rfl⟩ := map1 e
    refine ⟨_, call_int1, fun H1 H vs Q f e r k => ?_⟩
    obtain ⟨v, rfl, q⟩ := all1 f r
    obtain rfl := r1_int q
    exact .inl ⟨_, rfl, k _ _ (.refl _) (.int _)⟩
  · cases h
    rename_i e
    obtain ⟨⟨k1, d1⟩, rfl, rfl⟩ := map1 e
    refine ⟨_, call_int1, fun H1 H vs Q f e r k => ?_⟩
    obtain ⟨v, rfl, q⟩ := all1 f r
    obtain rfl := r1_bl q
    exact .inr ⟨_, rfl, k _ _ (.refl _) (.int _)⟩
  · cases h
    rename_i e
    obtain ⟨⟨k1, d1⟩, ⟨k2, d2⟩, rfl, rfl, rfl⟩ := map2 e
    refine ⟨_, call_min2 hc, fun H1 H vs Q f e r k => ?_⟩
    obtain ⟨v, w, rfl, q, q2⟩ := all2 f r
    obtain rfl := r1_int q
    obtain rfl := r1_int q2
    exact ⟨_, _, rfl, k _ _ (.refl _) (.int _)⟩
  · cases h
    rename_i e
    obtain ⟨⟨k1, d1⟩, ⟨k2, d2⟩, rfl, rfl, rfl⟩ := map2 e
    refine ⟨_, call_max2 hc, fun H1 H vs Q f e r k => ?_⟩
    obtain ⟨v, w, rfl, q, q2⟩ := all2 f r
    obtain rfl := r1_int q
    obtain rfl := r1_int q2
    exact ⟨_, _, rfl, k _ _ (.refl _) (.int _)⟩
  · rename_i e
    obtain ⟨⟨k1, d1⟩, ⟨k2, d2⟩, rfl, rfl, rfl⟩ := map2 e
    unfold dIsi at h
    split at h
    · rename_i ta hta
      split at h
      · rename_i b hb
        cases h
        refine ⟨_, call_isi, fun H1 H vs Q f e r k => ?_⟩
        obtain ⟨v, w, rfl, q, q2⟩ := all2 f r
        obtain rfl := r1_opq q2
        exact ⟨v, _, _, _, b, rfl, .ty _, ty_of hta q, kit_ty hb, k _ _ (.refl _) (.bl _)⟩
      · cases h
    · cases h
  · rename_i e
    obtain ⟨⟨k1, d1⟩, rfl, rfl⟩ := map1 e
    split at h
    · rename_i bs hb
      cases h
      refine ⟨_, cr_all hc, fun H1 H vs Q f e r k => ?_⟩
      obtain ⟨v, rfl, q⟩ := all1 f r
      obtain ⟨a, xs, rfl, ha, qa⟩ := r1_lst q
      have hx := bls_rep hb qa
      exact ⟨a, bs, rfl, .inl (.inl (by rw [ha, hx])), k _ _ (.refl _) (.bl _)⟩
    · cases h
  · rename_i e
    obtain ⟨⟨k1, d1⟩, rfl, rfl⟩ := map1 e
    cases d1 with
    | dct kvs =>
      cases h
      refine ⟨_, call_dictD, fun H1 H vs Q f e r k => ?_⟩
      obtain ⟨v, rfl, q⟩ := all1 f r
      obtain ⟨a, xs, rfl, ha, qa⟩ := r1_dct q
      exact ⟨a, xs, rfl, .inl ha, fun p hp => k _ _ (Ext.new jk hp) ⟨p, rfl, e.free p hp, xs, upd_same, repK_new jk hp qa⟩⟩
    | tup ds =>
      have h : (match pairsT ds with
        | some kvs => M.ok (D.dct (mergeD [] kvs))
        | none => .stuck) = .ok d := h
      split at h
      · rename_i kvs hk
        cases h
        refine ⟨_, call_dictT hc, fun H1 H vs Q f e r k => ?_⟩
        obtain ⟨v, rfl, q⟩ := all1 f r
        obtain ⟨a, xs, rfl, ha, qa⟩ := r1_tup q
        obtain ⟨ps, vs, rfl, hp, rk⟩ := pairsT_rep hk qa
        exact ⟨a, ps, vs, rfl, ha, hp, fun p hp => k _ _ (Ext.new jk hp) ⟨p, rfl, e.free p hp, mergeK [] vs, upd_same, repK_new jk hp (merge_rep .nil rk)⟩⟩
      · cases h
    | _ => cases h
  · obtain ⟨g, h⟩ := guard_ok h
    cases h
    rename_i e
    obtain ⟨⟨k1, d1⟩, rfl, rfl⟩ := map1 e
    rename_i ds
    unfold srtOk at g
    simp only [Bool.and_eq_true] at g
    obtain ⟨⟨⟨g1, g2⟩, g3⟩, g4⟩ := g
    have hdep : ∀ d ∈ ds, (py d).depth ≤ 60 := fun d hd => of_decide_eq_true (List.all_eq_true.mp g4 d hd)
    refine ⟨_, call_sortD hu, fun H1 H vs Q f e r k => ?_⟩
    obtain ⟨v, rfl, q⟩ := all1 f r
    obtain ⟨a, xs, rfl, ha, qa⟩ := r1_lst q
    have hl := qa.length
    have e1 : ((ds.zip xs).map fun p => ((py p.1, p.2) : PyData × V)).map (·.2) = xs := by
      rw [List.map_map]; exact List.map_snd_zip (by omega)
    have e2 : ((ds.zip xs).map fun p => ((py p.1, p.2) : PyData × V)).map (·.1) = pyL ds := by
      rw [List.map_map, pyL_map]
      have : (ds.zip xs).map (·.1) = ds := List.map_fst_zip (by omega)
      show (ds.zip xs).map (py ∘ Prod.fst) = _
      rw [← List.map_map, this]
    refine ⟨a, (ds.zip xs).map fun p => (py p.1, p.2), rfl, .of (by rw [e1]; exact ha), by rw [e1, e2]; exact reps_dp g1 qa, ?_, ?_, ?_, fun p hp => k _ _ (Ext.new jk hp) (res_lst jk hp e (sort_rep qa))⟩
    · rw [e2, pyL_map]
      intro d hd d' hd'
      obtain ⟨x, hx, rfl⟩ := List.mem_map.mp hd
      obtain ⟨y, hy, rfl⟩ := List.mem_map.mp hd'
      exact List.all_eq_true.mp (List.all_eq_true.mp g2 x hx) y hy
    · rw [e2, pyL_map]
      rcases Bool.or_eq_true_iff.mp g3 with z | z
      · refine .inl fun d hd => ?_
        obtain ⟨x, hx, rfl⟩ := List.mem_map.mp hd
        have := List.all_eq_true.mp z x hx
        cases x with
        | tup ys => cases ys with
          | nil => cases this
          | cons y ys => exact ⟨py y, pyL ys, rfl⟩
        | _ => cases this
      · refine .inr fun d hd => ?_
        obtain ⟨x, hx, rfl⟩ := List.mem_map.mp hd
        have := List.all_eq_true.mp z x hx
        have hp : pyOk x = true := by
          have : ∀ {l : List D}, pyOkL l = true → ∀ x ∈ l, pyOk x = true := fun {l} => by
            induction l with
            | nil => intro _ x hx; cases hx
            | cons y l ih =>
              intro h x hx
              have h' := Bool.and_eq_true_iff.mp (show (pyOk y && pyOkL l) = true from h)
              rcases List.mem_cons.mp hx with e | e
              · rw [e]; exact h'.1
              · exact ih h'.2 x e
          exact this g1 x hx
        cases x <;> first
          | (cases this; done)
          | (cases hp; done)
          | exact ⟨by simp [py], fun xs => by simp [py]⟩
    · intro p hp
      obtain ⟨z, hz, rfl⟩ := List.mem_map.mp hp
      exact hdep z.1 (List.of_mem_zip hz).1
  · rename_i e
    obtain ⟨⟨k1, d1⟩, rfl, rfl⟩ := map1 e
    unfold dMaxL at h
    split at h
    · rename_i i is hi
      cases h
      refine ⟨_, cr_max hc, fun H1 H vs Q f e r k => ?_⟩
      obtain ⟨v, rfl, q⟩ := all1 f r
      obtain ⟨a, xs, rfl, ha, qa⟩ := r1_lst q
      obtain ⟨hx, _⟩ := ints_rep hi qa
      refine ⟨a, i :: is, rfl, .of (by rw [ha, hx]), by simp, fun m hm hall => ?_⟩
      obtain ⟨f1, f2, f3⟩ := max_fold is i
      have : m = is.foldl (fun a b => if a < b then b else a) i := by
        refine Int.le_antisymm ?_ ?_
        · rcases List.mem_cons.mp hm with e | e
          · rw [e]; exact f2
          · exact f3 m e
        · rcases f1 with e | e
          · rw [e]; exact hall i List.mem_cons_self
          · exact hall _ (List.mem_cons_of_mem _ e)
      rw [this]
      exact k _ _ (.refl _) (.int _)
    · cases h
  · cases h
end
end PyV
namespace PyV
open PySem L2
theorem M.bind_assoc {α β γ : Type} (m : M α) (f : α → M β) (g : β → M γ) : (m.bind f).bind g = m.bind fun x => (f x).bind g := by cases m <;> rfl
theorem ok_of_ns {α β : Type} {m : M α} {f : α → M β} (h : m.bind f ≠ .stuck) : (∃ a, m = .ok a) ∨ ∃ c, m = .ex c := by
  cases m with
  | stuck => exact absurd rfl h
  | ok a => exact .inl ⟨a, rfl⟩
  | ex c => exact .inr ⟨c, rfl⟩
theorem dBin_ex {op : Operator} {a b : D} {c : Str} : dBin op a b ≠ .ex c := by
  unfold dBin
  split <;> first | (intro h; cases h; done) | (unfold guard'; split <;> intro h <;> cases h)
theorem inAny_ex {n : Bool} {a b : D} {c : Str} : dInAny n a b ≠ .ex c := by
  unfold dInAny
  split
  · split
    · intro h; cases h
    · unfold guard'; split <;> intro h <;> cases h
  · unfold guard'; split <;> intro h <;> cases h
  · split <;> intro h <;> cases h
  · intro h; cases h
theorem dCmp_ex {op : CmpOp} {a b : D} {c : Str} : dCmp op a b ≠ .ex c := by
  unfold dCmp
  split <;> first | (intro h; cases h; done) | (unfold guard'; split <;> intro h <;> cases h; done) | exact inAny_ex
theorem ofO_ex {α : Type} {o : Option α} {c : Str} : ofO o ≠ .ex c := by
  cases o <;> intro h <;> cases h
theorem dIx_ex {a b : D} {c : Str} : dIx a b ≠ .ex c := by
  unfold dIx
  split <;> first | exact ofO_ex | (unfold guard'; split <;> first | exact ofO_ex | (intro h; cases h; done)) | (split <;> first | exact ofO_ex | (intro h; cases h; done)) | (intro h; cases h; done)
theorem dSl_ex {a : D} {l h : Option Int} {c : Str} : dSl a l h ≠ .ex c := by
  unfold dSl
  split <;> first | (intro h; cases h; done) | (unfold guard'; split <;> intro h <;> cases h)
theorem inAny_bl {n : Bool} {a b d : D} (h : dInAny n a b = .ok d) : ∃ t, d = .bl t := by
  unfold dInAny at h
  split at h
  · split at h
    · cases h; exact ⟨_, rfl⟩
    · obtain ⟨_, h⟩ := guard_ok h; cases h; exact ⟨_, rfl⟩
  · obtain ⟨_, h⟩ := guard_ok h; cases h; exact ⟨_, rfl⟩
  · split at h
    · cases h; exact ⟨_, rfl⟩
    · cases h
  · cases h
theorem dDict_ex {d : D} {c : Str} : dDict d ≠ .ex c := by
  unfold dDict
  split
  · intro h; cases h
  · split <;> intro h <;> cases h
  · intro h; cases h
theorem dBlt_ex {b : Blt} {ds : List D} {c : Str} : dBlt b ds ≠ .ex c := by
  intro h
  unfold dBlt at h
  split at h <;> first
    | (cases h; done)
    | exact dDict_ex h
    | (unfold guard' at h; split at h <;> cases h; done)
    | (unfold dIsi at h; split at h <;> first | (split at h <;> cases h; done) | (cases h; done))
    | (split at h <;> cases h; done)
    | (unfold dMaxL at h; split at h <;> cases h; done)
section
variable {X : Cx} {J : Hp → Prop} {exv : Str → Option Addr} {k : Nat} {W : WX} {N : List Str} {sc : Scope} {nm : List Str} {S : Sig} {H0 : Hp} {B : Addr → Prop} {ρ : Env} {pos p2 : Pos} {e a b c : Expr} {ra rb rc : M R}
/-! ### kinds of names -/
theorem vis_of (C : Cok X J exv k W N sc nm S) {x : Str} (h : visB sc x = true) : Vis X.env.scope x := by
  rw [C.hsc]
  unfold visB at h
  split at h
  · exact .inl (by assumption)
  · exact .inr (.inl (by assumption))
  · exact .inr (.inr (by assumption))
  · cases h
theorem loc_of (C : Cok X J exv k W N sc nm S) {x : Str} (h : locB sc x = true) : Loc X.env.scope x := by
  rw [C.hsc]
  unfold locB at h
  split at h
  · exact .inl (by assumption)
  · exact .inr (by assumption)
  · cases h
theorem only_of (C : Cok X J exv k W N sc nm S) {x : Str} (h : onlyLoc sc x = true) : X.env.scope.names.lookup x = some .local := by
  rw [C.hsc]
  unfold onlyLoc at h
  split at h
  · assumption
  · cases h
theorem gl_of (C : Cok X J exv k W N sc nm S) {x : Str} (h : glB sc x = true) : Gl X x ∧ (x == ("__debug__" : Str)) = false := by
  unfold glB at h
  split at h
  · rename_i hh
    refine ⟨?_, by simpa using h⟩
    show X.env.scope.names.lookup x = some .globalImplicit
    rw [C.hsc]
    exact hh
  · cases h
theorem ix_name (C : Cok X J exv k W N sc nm S) {x : Str} {i : Nat} (h : nameOk N sc i x = true) : X.N[i]? = some x ∧ Vis X.env.scope x ∧ (x == ("__debug__" : Str)) = false ∧ (x == ("__classdict__" : Str)) = false := by
  unfold nameOk at h
  simp only [Bool.and_eq_true, decide_eq_true_eq, Bool.not_eq_true'] at h
  obtain ⟨⟨⟨h1, h2⟩, h3⟩, h4⟩ := h
  exact ⟨by rw [C.hN]; exact h1, vis_of C h2, h3, h4⟩
/-! ### names and constants -/
theorem je_v (C : Cok X J exv k W N sc nm S) {x : Str} {i : Nat} (h : nameOk N sc i x = true) : JE X J exv W H0 B (.Name x pos) ρ (evE S (.v i) ρ) := by
  obtain ⟨h1, h2, h3, h4⟩ := ix_name C h
  intro σ H Q fr ns w kk
  refine tE_of (pe_var h1 h2 h3 h4) ?_
  rw [evE] at ns kk
  cases hρ : ρ[i]? with
  | none => rw [hρ] at ns; exact absurd rfl ns
  | some o =>
    cases o with
    | none => rw [hρ] at ns; exact absurd rfl ns
    | some td =>
      obtain ⟨t, d⟩ := td
      obtain ⟨v, hv, hs⟩ := fr.at_ i t d hρ
      refine ⟨v, hv, ?_⟩
      rw [hρ] at kk
      cases t with
      | own => exact kk .own d rfl v H (.refl _) ⟨i, hρ, hv⟩
      | new => exact kk (.pl true) d rfl v H (.refl _) hs
      | old => exact kk (.pl false) d rfl v H (.refl _) hs
theorem je_c {d : D} {v : V} (p : PE X e (tC v)) (r : ∀ H (N : Addr → Prop), Rep X.K H N d v) : JE X J exv W H0 B e ρ (.ok (.pl true, d)) := by
  intro σ H Q fr ns w kk
  exact tE_of p (kk (.pl true) d rfl v H (.refl _) (r _ _))
theorem jt_plain (hp : ∀ whole, isTrue e X.env whole = (do let v ← whole; standAt e.pos; holding [v] (truthy v))) (h : JE X J exv W H0 B e ρ ra) : JT X J exv W H0 B e ρ (ra.bind asB) := by
  intro σ H Q fr ns w kk
  refine tT_of (pt_val pe_self hp) ?_
  refine h.use fr ns w fun kd d e1 v H' x f q ns' w' => ?_
  subst e1
  cases d with
  | bl t =>
    obtain rfl := r1_bl (q.rep1 f)
    exact ⟨t, rfl, kk t rfl H' x⟩
  | _ => exact absurd rfl ns'
theorem plainT {e : Expr} {env : PySem.Env} (h : (match e with
    | .UnaryOp .Not _ _ => false
    | .BoolOp .. => false
    | .IfExp .. => false
    | .Compare .. => false
    | _ => true) = true) : ∀ whole, isTrue e env whole = (do let v ← whole; standAt e.pos; holding [v] (truthy v)) := by
  intro whole
  cases e with
  | UnaryOp op a p => cases op <;> first | rfl | (cases h)
  | BoolOp => cases h
  | IfExp => cases h
  | Compare => cases h
  | _ => rfl
/-! ### operators -/
theorem opr_never {f : Value → Value → Sem Value} : OpR X f (fun _ _ _ _ => False) := fun _ _ _ _ _ _ _ _ _ _ _ _ h => h.elim
theorem ixr_never : IxR X (fun _ _ _ _ => False) := fun _ _ _ _ _ _ _ _ _ _ _ _ _ _ h => h.elim
theorem slr_never : SlR X (fun _ _ _ _ _ => False) := fun _ _ _ _ _ _ _ _ _ _ _ _ _ _ _ _ _ h => h.elim
theorem callr_never {f : Value} : CallR X f (fun _ _ _ => False) := fun _ _ _ _ _ _ _ _ _ h => h.elim
theorem je_bin (C : Cok X J exv k W N sc nm S) {op : Operator} (ha : JE X J exv W H0 B a ρ ra) (hb : JE X J exv W H0 B b ρ rb) :
    JE X J exv W H0 B (.BinOp a op b pos) ρ (ra.bind fun x => rb.bind fun y => (dBin op x.2 y.2).bind fun d => .ok (mkR (x.1.new && y.1.new) d)) := by
  intro σ H Q fr ns w kk
  obtain ⟨r, ho, hp⟩ : ∃ r, OpR X (binaryOp op) r ∧ ∀ x y d, ra = .ok x → rb = .ok y → dBin op x.2 y.2 = .ok d → BinP X J H0 B ρ σ x.2 y.2 d r := by
    by_cases hh : ∃ x y d, ra = .ok x ∧ rb = .ok y ∧ dBin op x.2 y.2 = .ok d
    · obtain ⟨x, y, d, e1, e2, e3⟩ := hh
      obtain ⟨r, h1, h2⟩ := bin_rule (X := X) (H0 := H0) (B := B) (ρ := ρ) (σ := σ) C.jk e3
      refine ⟨r, h1, fun x' y' d' e1' e2' e3' => ?_⟩
      rw [e1] at e1'; cases e1'
      rw [e2] at e2'; cases e2'
      rw [e3] at e3'; cases e3'
      exact h2
    · exact ⟨_, opr_never, fun x y d e1 e2 e3 => absurd ⟨x, y, d, e1, e2, e3⟩ hh⟩
  refine tE_of (pe_op ho pe_self pe_self) ?_
  refine ha.use fr ns w fun k1 d1 e1 v1 H1 x1 f1 q1 ns1 w1 => ?_
  refine hb.use f1 ns1 w1 fun k2 d2 e2 v2 H2 x2 f2 q2 ns2 w2 => ?_
  rcases ok_of_ns ns2 with ⟨d, hd⟩ | ⟨c, hd⟩
  · refine hp _ _ d e1 e2 hd H H2 v1 v2 k1.new k2.new Q ((q1.ext x2).rep1 f2) (q2.rep1 f2) (x1.trans x2) fun v H' x3 q => ?_
    refine kk _ _ ?_ v H' ((x1.trans x2).trans x3) q
    rw [e1, e2]
    show (dBin op d1 d2).bind _ = _
    rw [hd]
    rfl
  · exact absurd hd dBin_ex
theorem je_neg (C : Cok X J exv k W N sc nm S) (ha : JE X J exv W H0 B a ρ ra) :
    JE X J exv W H0 B (.UnaryOp .USub a pos) ρ (ra.bind fun x => match x.2 with
      | .int i => .ok (.pl true, .int (-i))
      | _ => .stuck) := by
  intro σ H Q fr ns w kk
  refine tE_of (pe_un un_neg pe_self) ?_
  refine ha.use fr ns w fun k1 d1 e1 v1 H1 x1 f1 q1 ns1 w1 => ?_
  subst e1
  cases d1 with
  | int i =>
    obtain rfl := r1_int (q1.rep1 f1)
    exact ⟨i, rfl, kk _ _ rfl _ _ x1 (.int _)⟩
  | _ => exact absurd rfl ns1
theorem je_nt (ha : JE X J exv W H0 B a ρ ra) : JE X J exv W H0 B (.UnaryOp .Not a pos) ρ (ra.bind fun x => (asB x).bind fun b => .ok (.pl true, .bl (!b))) := by
  intro σ H Q fr ns w kk
  refine tE_of (pe_not pe_self) ?_
  refine ha.use fr ns w fun k1 d1 e1 v1 H1 x1 f1 q1 ns1 w1 => ?_
  subst e1
  cases d1 with
  | bl i =>
    obtain rfl := r1_bl (q1.rep1 f1)
    exact ⟨i, rfl, kk _ _ rfl _ _ x1 (.bl _)⟩
  | _ => exact absurd rfl ns1
theorem jt_nt (ha : JT X J exv W H0 B a ρ (ra.bind asB)) : JT X J exv W H0 B (.UnaryOp .Not a pos) ρ ((ra.bind fun x => (asB x).bind fun b => .ok (.pl true, .bl (!b))).bind asB) := by
  have e : ((ra.bind fun x => (asB x).bind fun b => (.ok (.pl true, .bl (!b)) : M R)).bind asB) = (ra.bind asB).bind fun b => .ok (!b) := by
    cases ra with
    | ok x => obtain ⟨kx, dx⟩ := x; cases dx <;> rfl
    | _ => rfl
  rw [e]
  intro σ H Q fr ns w kk
  refine tT_of (pt_not pt_self) ?_
  refine ha.use fr ns w fun b e1 H1 x1 f1 ns1 w1 => ?_
  rw [e1] at kk
  exact kk _ rfl H1 x1
theorem pick_cmp (C : Cok X J exv k W N sc nm S) {op : CmpOp} {σ : St} (ra rb : M R) : ∃ r, OpR X (compareOp op) r ∧ ∀ x y d, ra = .ok x → rb = .ok y → dCmp op x.2 y.2 = .ok d → CmpP X H0 B ρ σ x.2 y.2 d r := by
  by_cases hh : ∃ x y d, ra = .ok x ∧ rb = .ok y ∧ dCmp op x.2 y.2 = .ok d
  · obtain ⟨x, y, d, e1, e2, e3⟩ := hh
    obtain ⟨r, h1, h2⟩ := cmp_rule (X := X) (H0 := H0) (B := B) (ρ := ρ) (σ := σ) (by have := C.room.un; omega) e3
    refine ⟨r, h1, fun x' y' d' e1' e2' e3' => ?_⟩
    rw [e1] at e1'; cases e1'
    rw [e2] at e2'; cases e2'
    rw [e3] at e3'; cases e3'
    exact h2
  · exact ⟨_, opr_never, fun x y d e1 e2 e3 => absurd ⟨x, y, d, e1, e2, e3⟩ hh⟩
theorem cmp_bl {op : CmpOp} {a b d : D} (h : dCmp op a b = .ok d) : ∃ t, d = .bl t := by
  unfold dCmp at h
  split at h <;> first
    | (cases h; exact ⟨_, rfl⟩)
    | (obtain ⟨_, h⟩ := guard_ok h; cases h; exact ⟨_, rfl⟩)
    | exact inAny_bl h
    | (cases h; done)
theorem je_cmp (C : Cok X J exv k W N sc nm S) {op : CmpOp} (ob : okE b = true) (ha : JE X J exv W H0 B a ρ ra) (hb : JE X J exv W H0 B b ρ rb) :
    JE X J exv W H0 B (.Compare a [op] [b] pos) ρ (ra.bind fun x => rb.bind fun y => (dCmp op x.2 y.2).bind fun d => .ok (.pl true, d)) := by
  intro σ H Q fr ns w kk
  obtain ⟨r, ho, hp⟩ := pick_cmp (H0 := H0) (B := B) (ρ := ρ) (σ := σ) C (op := op) ra rb
  refine tE_of (pe_cmpR ho pe_self pe_self (mark_ok ob)) ?_
  refine ha.use fr ns w fun k1 d1 e1 v1 H1 x1 f1 q1 ns1 w1 => ?_
  refine hb.use f1 ns1 w1 fun k2 d2 e2 v2 H2 x2 f2 q2 ns2 w2 => ?_
  rcases ok_of_ns ns2 with ⟨d, hd⟩ | ⟨c, hd⟩
  · refine hp _ _ d e1 e2 hd H2 v1 v2 k1.new k2.new Q ((q1.ext x2).rep1 f2) (q2.rep1 f2) fun t et => ?_
    refine kk (.pl true) d ?_ _ H2 (x1.trans x2) ?_
    · rw [e1, e2]
      show (dCmp op d1 d2).bind _ = _
      rw [hd]
      rfl
    · rw [et]
      exact Rep.bl _
  · exact absurd hd dCmp_ex
theorem jt_cmp (C : Cok X J exv k W N sc nm S) {op : CmpOp} (ob : okE b = true) (ha : JE X J exv W H0 B a ρ ra) (hb : JE X J exv W H0 B b ρ rb) :
    JT X J exv W H0 B (.Compare a [op] [b] pos) ρ ((ra.bind fun x => rb.bind fun y => (dCmp op x.2 y.2).bind fun d => .ok (.pl true, d)).bind asB) := by
  simp only [M.bind_assoc]
  intro σ H Q fr ns w kk
  obtain ⟨r, ho, hp⟩ := pick_cmp (H0 := H0) (B := B) (ρ := ρ) (σ := σ) C (op := op) ra rb
  refine tT_of (pt_cmpR ho pe_self pe_self (mark_ok ob)) ?_
  refine ha.use fr ns w fun k1 d1 e1 v1 H1 x1 f1 q1 ns1 w1 => ?_
  refine hb.use f1 ns1 w1 fun k2 d2 e2 v2 H2 x2 f2 q2 ns2 w2 => ?_
  rcases ok_of_ns ns2 with ⟨d, hd⟩ | ⟨c, hd⟩
  · refine hp _ _ d e1 e2 hd H2 v1 v2 k1.new k2.new _ ((q1.ext x2).rep1 f2) (q2.rep1 f2) fun t et => ⟨t, rfl, ?_⟩
    refine kk t ?_ H2 (x1.trans x2)
    rw [e1, e2]
    show (dCmp op d1 d2).bind _ = _
    rw [hd, et]
    rfl
  · exact absurd hd dCmp_ex
end
end PyV
namespace PyV
open PySem L2
section
variable {X : Cx} {J : Hp → Prop} {exv : Str → Option Addr} {k : Nat} {W : WX} {N : List Str} {sc : Scope} {nm : List Str} {S : Sig} {H0 : Hp} {B : Addr → Prop} {ρ : Env} {pos p2 : Pos} {e a b c : Expr} {ra rb rc : M R} {es : List Expr} {rs : M (List R)}
theorem chn_marks {b c : Expr} {op op2 : CmpOp} (h : okE c = true) : lastMarks [op, op2] [b, c] = false := by
  show behindInMarks op2 c = false
  exact mark_ok h
abbrev chnF (op op2 : CmpOp) (ra rb rc : M R) : M R := ra.bind fun x => rb.bind fun y => (dCmp op x.2 y.2).bind fun d => match d with
    | .bl true => rc.bind fun z => (dCmp op2 y.2 z.2).bind fun d => .ok (.pl true, d)
    | .bl false => .ok (.pl true, .bl false)
    | _ => .stuck
theorem chn_core (C : Cok X J exv k W N sc nm S) {op op2 : CmpOp} {σ : St} {H : Hp} {Q : VK} (ha : JE X J exv W H0 B a ρ ra) (hb : JE X J exv W H0 B b ρ rb) (hc : JE X J exv W H0 B c ρ rc)
    (fr : Fr J X.K H0 B ρ σ H) (ns : chnF op op2 ra rb rc ≠ .stuck) (w : Wish J exv W σ H (chnF op op2 ra rb rc)) (kk : ∀ t, chnF op op2 ra rb rc = .ok (.pl true, .bl t) → ∀ H', Ext J H H' → Q (.bl t) H') :
    ∃ r r', OpR X (compareOp op) r ∧ OpR X (compareOp op2) r' ∧ tChain r r' (tE X a) (tE X b) (tE X c) σ H Q := by
  obtain ⟨r, ho, hp⟩ := pick_cmp (H0 := H0) (B := B) (ρ := ρ) (σ := σ) C (op := op) ra rb
  obtain ⟨r', ho', hp'⟩ := pick_cmp (H0 := H0) (B := B) (ρ := ρ) (σ := σ) C (op := op2) rb rc
  refine ⟨r, r', ho, ho', ?_⟩
  refine ha.use fr ns w fun k1 d1 e1 v1 H1 x1 f1 q1 ns1 w1 => ?_
  refine hb.use f1 ns1 w1 fun k2 d2 e2 v2 H2 x2 f2 q2 ns2 w2 => ?_
  rcases ok_of_ns ns2 with ⟨d, hd⟩ | ⟨c, hd⟩
  · refine hp _ _ d e1 e2 hd H2 v1 v2 k1.new k2.new _ ((q1.ext x2).rep1 f2) (q2.rep1 f2) fun t et => ⟨t, rfl, ?_⟩
    subst et
    cases t with
    | false =>
      refine iteF (kk false ?_ H2 (x1.trans x2))
      unfold chnF
      rw [e1, e2]
      show (dCmp op d1 d2).bind _ = _
      rw [hd]
      rfl
    | true =>
      refine iteT ?_
      have e3 : ((dCmp op (k1, d1).snd (k2, d2).snd).bind fun d => (match d with
        | .bl true => rc.bind fun z => (dCmp op2 (k2, d2).2 z.2).bind fun d => .ok (.pl true, d)
        | .bl false => .ok (.pl true, .bl false)
        | _ => .stuck : M R)) = rc.bind fun z => (dCmp op2 d2 z.2).bind fun d => .ok (.pl true, d) := by
        show (dCmp op d1 d2).bind _ = _
        rw [hd]
        rfl
      rw [e3] at ns2 w2
      refine hc.use f2 ns2 w2 fun k3 d3 e4 v3 H3 x3 f3 q3 ns3 w3 => ?_
      rcases ok_of_ns ns3 with ⟨d', hd'⟩ | ⟨c, hd'⟩
      · refine hp' _ _ d' e2 e4 hd' H3 v2 v3 k2.new k3.new _ ((q2.ext x3).rep1 f3) (q3.rep1 f3) fun t et => ?_
        refine kk t ?_ H3 ((x1.trans x2).trans x3)
        unfold chnF
        rw [e1, e2]
        show (dCmp op d1 d2).bind _ = _
        rw [hd, e4]
        show (dCmp op2 d2 d3).bind _ = _
        rw [hd', et]
        rfl
      · exact absurd hd' dCmp_ex
  · exact absurd hd dCmp_ex
theorem je_chn (C : Cok X J exv k W N sc nm S) {op op2 : CmpOp} (oc : okE c = true) (ha : JE X J exv W H0 B a ρ ra) (hb : JE X J exv W H0 B b ρ rb) (hc : JE X J exv W H0 B c ρ rc) :
    JE X J exv W H0 B (.Compare a [op, op2] [b, c] pos) ρ (chnF op op2 ra rb rc) := by
  intro σ H Q fr ns w kk
  obtain ⟨r, r', h1, h2, h3⟩ := chn_core C ha hb hc fr ns w (Q := Q) fun t et H' x => kk _ _ et _ _ x (.bl _)
  exact tE_of (pe_chain h1 h2 pe_self pe_self pe_self (chn_marks oc)) h3
theorem jt_chn (C : Cok X J exv k W N sc nm S) {op op2 : CmpOp} (oc : okE c = true) (ha : JE X J exv W H0 B a ρ ra) (hb : JE X J exv W H0 B b ρ rb) (hc : JE X J exv W H0 B c ρ rc) :
    JT X J exv W H0 B (.Compare a [op, op2] [b, c] pos) ρ ((chnF op op2 ra rb rc).bind asB) := by
  intro σ H Q fr ns w kk
  obtain ⟨r, r', h1, h2, h3⟩ := chn_core C ha hb hc fr (bind_ns ns) w.left (Q := fun x H' => ∃ t, x = V.bl t ∧ Q t H') fun t et H' x => ⟨t, rfl, kk t (by rw [et]; rfl) H' x⟩
  exact tT_of (pt_chain h1 h2 pe_self pe_self pe_self (chn_marks oc)) h3
/-! ### and, or -/
theorem je_one {op : BoolOp} (ha : JE X J exv W H0 B a ρ ra) : JE X J exv W H0 B (.BoolOp op [a] pos) ρ ra := fun σ H Q fr ns w kk => tE_of (pe_one pe_self) (ha σ H Q fr ns w kk)
abbrev bopF (op : BoolOp) (ra rb : M R) : M R := ra.bind fun x => (asB x).bind fun b => match op with
    | .And => if b then rb else .ok (.pl true, .bl false)
    | .Or => if b then .ok (.pl true, .bl true) else rb
theorem je_more {op : BoolOp} (ha : JE X J exv W H0 B a ρ ra) (hb : JE X J exv W H0 B (.BoolOp op (b :: es) pos) ρ rb) : JE X J exv W H0 B (.BoolOp op (a :: b :: es) pos) ρ (bopF op ra rb) := by
  intro σ H Q fr ns w kk
  cases op with
  | And =>
    refine tE_of (pe_and pe_self pe_self) ?_
    refine ha.use fr ns w fun k1 d1 e1 v1 H1 x1 f1 q1 ns1 w1 => ?_
    subst e1
    cases d1 with
    | bl i =>
      obtain rfl := r1_bl (q1.rep1 f1)
      refine ⟨i, rfl, ?_⟩
      cases i with
      | true => exact iteT (hb σ H1 Q f1 ns1 w1 fun k2 d2 e2 v2 H2 x2 q2 => kk k2 d2 e2 v2 H2 (x1.trans x2) (q2.back x1))
      | false => exact iteF (kk _ _ rfl _ _ x1 (.bl _))
    | _ => exact absurd rfl ns1
  | Or =>
    refine tE_of (pe_or pe_self pe_self) ?_
    refine ha.use fr ns w fun k1 d1 e1 v1 H1 x1 f1 q1 ns1 w1 => ?_
    subst e1
    cases d1 with
    | bl i =>
      obtain rfl := r1_bl (q1.rep1 f1)
      refine ⟨i, rfl, ?_⟩
      cases i with
      | false => exact iteF (hb σ H1 Q f1 ns1 w1 fun k2 d2 e2 v2 H2 x2 q2 => kk k2 d2 e2 v2 H2 (x1.trans x2) (q2.back x1))
      | true => exact iteT (kk _ _ rfl _ _ x1 (.bl _))
    | _ => exact absurd rfl ns1
def JW (X : Cx) (J : Hp → Prop) (exv : Str → Option Addr) (W : WX) (H0 : Hp) (B : Addr → Prop) (e : Expr) (ρ : Env) (r : M Bool) : Prop := ∀ σ H Q, Fr J X.K H0 B ρ σ H → r ≠ .stuck → Wish J exv W σ H r →
  (∀ b, r = .ok b → ∀ H', Ext J H H' → Q b H') → tW X e σ H Q
theorem JW.jt {r : M Bool} (h : JW X J exv W H0 B e ρ r) : JT X J exv W H0 B e ρ r := fun σ H Q fr ns w kk => tT_W (h σ H Q fr ns w kk)
theorem jw_one {op : BoolOp} {r : M Bool} (ha : JT X J exv W H0 B a ρ r) : JW X J exv W H0 B (.BoolOp op [a] pos) ρ r := fun σ H Q fr ns w kk => by
  cases op with
  | And => exact tW_of (pw_and1 pt_self) (ha σ H Q fr ns w kk)
  | Or => exact tW_of (pw_or1 pt_self) (ha σ H Q fr ns w kk)
theorem jw_more {op : BoolOp} (ha : JT X J exv W H0 B a ρ (ra.bind asB)) (hb : JW X J exv W H0 B (.BoolOp op (b :: es) pos) ρ (rb.bind asB)) : JW X J exv W H0 B (.BoolOp op (a :: b :: es) pos) ρ ((bopF op ra rb).bind asB) := by
  have e : (bopF op ra rb).bind asB = (ra.bind asB).bind fun t => match op with
    | .And => if t then rb.bind asB else .ok false
    | .Or => if t then .ok true else rb.bind asB := by
    cases ra with
    | ok x =>
      obtain ⟨kx, dx⟩ := x
      cases dx with
      | bl t => cases op <;> cases t <;> rfl
      | _ => rfl
    | _ => rfl
  rw [e]
  intro σ H Q fr ns w kk
  cases op with
  | And =>
    refine tW_of (pw_and pt_self pw_self) ?_
    refine ha.use fr ns w fun t e1 H1 x1 f1 ns1 w1 => ?_
    rw [e1] at kk
    cases t with
    | true => exact iteT (hb σ H1 Q f1 ns1 w1 fun b2 e2 H2 x2 => kk b2 e2 H2 (x1.trans x2))
    | false => exact iteF (kk false rfl H1 x1)
  | Or =>
    refine tW_of (pw_or pt_self pw_self) ?_
    refine ha.use fr ns w fun t e1 H1 x1 f1 ns1 w1 => ?_
    rw [e1] at kk
    cases t with
    | false => exact iteF (hb σ H1 Q f1 ns1 w1 fun b2 e2 H2 x2 => kk b2 e2 H2 (x1.trans x2))
    | true => exact iteT (kk true rfl H1 x1)
/-! ### a if c else b -/
theorem je_ite (hc : JT X J exv W H0 B c ρ (rc.bind asB)) (ha : JE X J exv W H0 B a ρ ra) (hb : JE X J exv W H0 B b ρ rb) :
    JE X J exv W H0 B (.IfExp c a b pos) ρ (rc.bind fun x => (asB x).bind fun t => if t then ra else rb) := by
  rw [show (rc.bind fun x => (asB x).bind fun t => if t then ra else rb) = (rc.bind asB).bind fun t => if t then ra else rb from by rw [M.bind_assoc]]
  intro σ H Q fr ns w kk
  refine tE_of (pe_ifExp pt_self pe_self pe_self) ?_
  refine hc.use fr ns w fun t e1 H1 x1 f1 ns1 w1 => ?_
  rw [e1] at kk
  cases t with
  | true => exact iteT (ha σ H1 Q f1 ns1 w1 fun k2 d2 e2 v2 H2 x2 q2 => kk k2 d2 e2 v2 H2 (x1.trans x2) (q2.back x1))
  | false => exact iteF (hb σ H1 Q f1 ns1 w1 fun k2 d2 e2 v2 H2 x2 q2 => kk k2 d2 e2 v2 H2 (x1.trans x2) (q2.back x1))
theorem pt_ifExp {t : TT} {u z : TT} (hc : PT X c t) (ha : PT X a u) (hb : PT X b z) : PT X (.IfExp c a b pos) (fun σ H Q => t σ H fun k H1 => if k = true then u σ H1 Q else z σ H1 Q) := by
  refine ⟨fun pins s σ H Q I h => ?_⟩
  refine PyProof.Rows.isTrue_IfExp (thn (hc.run pins s σ H _ I h) fun d s1 ⟨H1, I1, q1⟩ => ?_)
  cases d with
  | true => exact ha.run pins s1 σ H1 Q I1 q1
  | false => exact hb.run pins s1 σ H1 Q I1 q1
theorem jt_ite (hc : JT X J exv W H0 B c ρ (rc.bind asB)) (ha : JT X J exv W H0 B a ρ (ra.bind asB)) (hb : JT X J exv W H0 B b ρ (rb.bind asB)) :
    JT X J exv W H0 B (.IfExp c a b pos) ρ ((rc.bind fun x => (asB x).bind fun t => if t then ra else rb).bind asB) := by
  have e : ((rc.bind fun x => (asB x).bind fun t => if t then ra else rb).bind asB) = (rc.bind asB).bind fun t => if t then ra.bind asB else rb.bind asB := by
    cases rc with
    | ok x =>
      obtain ⟨kx, dx⟩ := x
      cases dx with
      | bl t => cases t <;> rfl
      | _ => rfl
    | _ => rfl
  rw [e]
  intro σ H Q fr ns w kk
  refine tT_of (pt_ifExp pt_self pt_self pt_self) ?_
  refine hc.use fr ns w fun t e1 H1 x1 f1 ns1 w1 => ?_
  rw [e1] at kk
  cases t with
  | true => exact iteT (ha σ H1 Q f1 ns1 w1 fun b2 e2 H2 x2 => kk b2 e2 H2 (x1.trans x2))
  | false => exact iteF (hb σ H1 Q f1 ns1 w1 fun b2 e2 H2 x2 => kk b2 e2 H2 (x1.trans x2))
/-! ### lists of terms, displays -/
theorem ja_nil : JA X J exv W H0 B [] ρ (.ok []) := fun σ H Q fr ns w kk => tA_of pa_nil (kk [] rfl [] H (.refl _) rfl)
theorem ja_cons (oe : okE e = true) (ha : JE X J exv W H0 B e ρ ra) (hb : JA X J exv W H0 B es ρ rs) : JA X J exv W H0 B (e :: es) ρ (ra.bind fun r => rs.bind fun rs => .ok (r :: rs)) := by
  intro σ H Q fr ns w kk
  refine tA_of (pa_cons pe_self pa_self (star_ok oe)) ?_
  refine ha.use fr ns w fun k1 d1 e1 v1 H1 x1 f1 q1 ns1 w1 => ?_
  refine hb.use f1 ns1 w1 fun rs e2 vs H2 x2 f2 q2 ns2 w2 => ?_
  exact kk ((k1, d1) :: rs) (by rw [e1, e2]; rfl) _ H2 (x1.trans x2) ⟨v1, vs, rfl, q1.ext x2, q2.back x1⟩
theorem ResAll.length {K : PySem.W.Frag} {σ : St} {H1 H2 : Hp} : ∀ {rs : List R} {vs : List V}, ResAll H0 B K ρ σ H1 H2 rs vs → rs.length = vs.length
  | [], _, h => by cases h; rfl
  | _ :: _, _, ⟨v, vr, h, _, q⟩ => by subst h; rw [List.length_cons, List.length_cons, ResAll.length q]
theorem je_tup (C : Cok X J exv k W N sc nm S) {i : Nat} (h : JA X J exv W H0 B es ρ rs) :
    JE X J exv W H0 B (.Tuple es i pos) ρ (rs.bind fun rs => guard' (noOwn rs = true ∧ rs.length ≤ lim) (.ok (.pl (allNew rs), .tup (rs.map (·.2))))) := by
  intro σ H Q fr ns w kk
  refine tE_of (pe_tupP pa_self) ?_
  refine h.use fr ns w fun rs e1 vs H1 x1 f1 q1 ns1 w1 => ?_
  obtain ⟨⟨g1, g2⟩, e2⟩ := guard_ns ns1
  rw [e1] at kk
  refine ⟨by rw [← q1.length]; exact lim_size g2, fun p o hp ho => kk _ _ e2 _ _ (x1.trans (Ext.new C.jk hp)) (res_tup C.jk hp ho (ResAll.reps fr x1 _ q1 g1 id))⟩
theorem je_lst (C : Cok X J exv k W N sc nm S) (h : JA X J exv W H0 B es ρ rs) :
    JE X J exv W H0 B (.List es pos) ρ (rs.bind fun rs => guard' (noOwn rs = true ∧ rs.length ≤ lim) (.ok (.top (allNew rs), .lst (rs.map (·.2))))) := by
  intro σ H Q fr ns w kk
  refine tE_of (pe_lst pa_self) ?_
  refine h.use fr ns w fun rs e1 vs H1 x1 f1 q1 ns1 w1 => ?_
  obtain ⟨⟨g1, g2⟩, e2⟩ := guard_ns ns1
  rw [e1] at kk
  refine ⟨by rw [← q1.length]; exact lim_size g2, fun p hp => kk _ _ e2 _ _ (x1.trans (Ext.new C.jk hp)) (res_lst0 C.jk hp x1 (ResAll.reps fr x1 _ q1 g1 id))⟩
/-! ### subscripts, slices -/
theorem je_ix (C : Cok X J exv k W N sc nm S) (ob : okE b = true) (ha : JE X J exv W H0 B a ρ ra) (hb : JE X J exv W H0 B b ρ rb) :
    JE X J exv W H0 B (.Subscript a b pos) ρ (ra.bind fun x => rb.bind fun y => (dIx x.2 y.2).bind fun d => .ok (elR x.1.new d)) := by
  intro σ H Q fr ns w kk
  by_cases hdd : ∃ x kvs, ra = .ok (x, .dct kvs)
  · obtain ⟨xk, kvs, e0⟩ := hdd
    refine tE_of (pe_dget (Nat.lt_of_le_of_lt (Nat.add_le_add_left (by decide : 1 ≤ 64) _) C.room.units) pe_self pe_self (plain_ok ob)) ?_
    refine ha.use fr ns w fun k1 d1 e1 v1 H1 x1 f1 q1 ns1 w1 => ?_
    rw [e0] at e1
    cases e1
    refine hb.use f1 ns1 w1 fun k2 d2 e2 v2 H2 x2 f2 q2 ns2 w2 => ?_
    obtain ⟨a', vs, rfl, hv, rk⟩ := r1_dct ((q1.ext x2).rep1 f2)
    rcases ok_of_ns ns2 with ⟨d, hd⟩ | ⟨c, hd⟩
    · have hd0 : (match keyD d2 with
        | some k => ofO (lookD kvs k)
        | none => .stuck) = M.ok d := hd
      cases hk : keyD d2 with
      | none => rw [hk] at hd0; cases hd0
      | some key =>
        rw [hk] at hd0
        have hl := ofO_ok hd0
        obtain rfl := key_rep hk (q2.rep1 f2).any
        have q := look_rep (k := key) rk
        rw [hl] at q
        obtain ⟨v, hv1, rv⟩ := q
        refine ⟨a', v, rfl, by rw [← hv1]; exact DGet.k hv, kk _ _ ?_ v H2 (x1.trans x2) (res_pl rv)⟩
        rw [e0, e2]
        show (dIx (.dct kvs) d2).bind _ = _
        rw [hd]
        rfl
    · exact absurd hd dIx_ex
  · obtain ⟨r, ho, hp⟩ : ∃ r, IxR X r ∧ ∀ x y d, ra = .ok x → rb = .ok y → dIx x.2 y.2 = .ok d → IxP X H0 B ρ σ x.2 y.2 d r := by
      by_cases hh : ∃ x y d, ra = .ok x ∧ rb = .ok y ∧ dIx x.2 y.2 = .ok d
      · obtain ⟨x, y, d, e1, e2, e3⟩ := hh
        have nd : isDct x.2 = false := by
          obtain ⟨xk, xd⟩ := x
          cases xd with
          | dct kvs => exact absurd ⟨xk, kvs, e1⟩ hdd
          | _ => rfl
        obtain ⟨r, h1, h2⟩ := ix_rule (X := X) (H0 := H0) (B := B) (ρ := ρ) (σ := σ) e3 nd
        refine ⟨r, h1, fun x' y' d' e1' e2' e3' => ?_⟩
        rw [e1] at e1'; cases e1'
        rw [e2] at e2'; cases e2'
        rw [e3] at e3'; cases e3'
        exact h2
      · exact ⟨_, ixr_never, fun x y d e1 e2 e3 => absurd ⟨x, y, d, e1, e2, e3⟩ hh⟩
    refine tE_of (pe_ix ho pe_self pe_self (plain_ok ob)) ?_
    refine ha.use fr ns w fun k1 d1 e1 v1 H1 x1 f1 q1 ns1 w1 => ?_
    refine hb.use f1 ns1 w1 fun k2 d2 e2 v2 H2 x2 f2 q2 ns2 w2 => ?_
    rcases ok_of_ns ns2 with ⟨d, hd⟩ | ⟨c, hd⟩
    · refine hp _ _ d e1 e2 hd H H2 v1 v2 k1.new k2.new Q ((q1.ext x2).rep1 f2) (q2.rep1 f2) fun v q => ?_
      refine kk _ _ ?_ v H2 (x1.trans x2) q
      rw [e1, e2]
      show (dIx d1 d2).bind _ = _
      rw [hd]
      rfl
    · exact absurd hd dIx_ex
/-- a slice's part -/
def JP (X : Cx) (J : Hp → Prop) (exv : Str → Option Addr) (W : WX) (H0 : Hp) (B : Addr → Prop) (o : Option Expr) (ρ : Env) (r : M (Option Int)) : Prop := ∀ σ H, Fr J X.K H0 B ρ σ H → r ≠ .stuck → Wish J exv W σ H r →
  ∃ t : TO, PO X o t ∧ True
theorem po_self : ∃ t : Option Expr → TO, (∀ o, PO X o (t o)) ∧ (∀ σ H Q, t none σ H Q = Q none H) ∧ ∀ e σ H Q, t (some e) σ H Q = tE X e σ H fun x H1 => ∃ i, x = .int i ∧ Q (some i) H1 :=
  ⟨fun o => match o with
    | none => tNoPart
    | some e => tPart (tE X e), fun o => match o with
    | none => po_none
    | some e => po_some pe_self, fun _ _ _ => rfl, fun _ _ _ _ => rfl⟩
theorem part_use {σ : St} {H : Hp} {o : Option Expr} {r : M (Option Int)} {β : Type} {f : Option Int → M β} {t : Option Expr → TO} {Q : Option Int → Hp → Prop} (h1 : ∀ σ H Q, t none σ H Q = Q none H) (h2 : ∀ e σ H Q, t (some e) σ H Q = tE X e σ H fun x H1 => ∃ i, x = .int i ∧ Q (some i) H1)
    (hp : match o with
      | none => r = .ok none
      | some e => ∃ re, r = re.bind asI ∧ JE X J exv W H0 B e ρ re)
    (fr : Fr J X.K H0 B ρ σ H) (ns : r.bind f ≠ .stuck) (w : Wish J exv W σ H (r.bind f))
    (kk : ∀ l, r = .ok l → ∀ H', Ext J H H' → Fr J X.K H0 B ρ σ H' → f l ≠ .stuck → Wish J exv W σ H' (f l) → Q l H') : t o σ H Q := by
  cases o with
  | none =>
    rw [h1]
    have hp : r = .ok none := hp
    subst hp
    exact kk none rfl H (.refl _) fr ns w
  | some e =>
    rw [h2]
    obtain ⟨re, rfl, hj⟩ := hp
    rw [M.bind_assoc] at ns w
    refine hj.use fr ns w fun k1 d1 e1 v1 H1 x1 f1 q1 ns1 w1 => ?_
    subst e1
    cases d1 with
    | int i =>
      obtain rfl := r1_int (q1.rep1 f1)
      exact ⟨i, rfl, kk (some i) rfl H1 x1 f1 ns1 w1⟩
    | _ => exact absurd rfl ns1
theorem je_sl (C : Cok X J exv k W N sc nm S) {lo hi : Option Expr} {rl rh : M (Option Int)} (ha : JE X J exv W H0 B a ρ ra)
    (hl : match lo with
      | none => rl = .ok none
      | some e => ∃ re, rl = re.bind asI ∧ JE X J exv W H0 B e ρ re)
    (hh : match hi with
      | none => rh = .ok none
      | some e => ∃ re, rh = re.bind asI ∧ JE X J exv W H0 B e ρ re) :
    JE X J exv W H0 B (.Subscript a (.Slice lo hi none p2) pos) ρ (ra.bind fun x => rl.bind fun l => rh.bind fun h => (dSl x.2 l h).bind fun d => .ok (mkR x.1.new d)) := by
  intro σ H Q fr ns w kk
  obtain ⟨r, ho, hp⟩ : ∃ r, SlR X r ∧ ∀ x l h d, ra = .ok x → rl = .ok l → rh = .ok h → dSl x.2 l h = .ok d → SlP X J H0 B ρ σ x.2 d l h r := by
    by_cases hq : ∃ x l h d, ra = .ok x ∧ rl = .ok l ∧ rh = .ok h ∧ dSl x.2 l h = .ok d
    · obtain ⟨x, l, h, d, e1, e2, e3, e4⟩ := hq
      obtain ⟨r, h1, h2⟩ := sl_rule (X := X) (H0 := H0) (B := B) (ρ := ρ) (σ := σ) C.jk e4
      refine ⟨r, h1, fun x' l' h' d' e1' e2' e3' e4' => ?_⟩
      rw [e1] at e1'; cases e1'
      rw [e2] at e2'; cases e2'
      rw [e3] at e3'; cases e3'
      rw [e4] at e4'; cases e4'
      exact h2
    · exact ⟨_, slr_never, fun x l h d e1 e2 e3 e4 => absurd ⟨x, l, h, d, e1, e2, e3, e4⟩ hq⟩
  obtain ⟨t, t1, t2, t3⟩ := po_self (X := X)
  refine tE_of (pe_slice ho pe_self (t1 lo) (t1 hi)) ?_
  refine ha.use fr ns w fun k1 d1 e1 v1 H1 x1 f1 q1 ns1 w1 => ?_
  refine part_use t2 t3 hl f1 ns1 w1 fun l e2 H2 x2 f2 ns2 w2 => ?_
  refine part_use t2 t3 hh f2 ns2 w2 fun h e3 H3 x3 f3 ns3 w3 => ?_
  rcases ok_of_ns ns3 with ⟨d, hd⟩ | ⟨c, hd⟩
  · refine hp _ _ _ d e1 e2 e3 hd H H3 v1 k1.new Q (((q1.ext x2).ext x3).rep1 f3) ((x1.trans x2).trans x3) fun v H' x4 q => ?_
    refine kk _ _ ?_ v H' (((x1.trans x2).trans x3).trans x4) q
    rw [e1, e2, e3]
    show (dSl d1 l h).bind _ = _
    rw [hd]
    rfl
  · exact absurd hd dSl_ex
end
end PyV
namespace PyV
open PySem L2
section
variable {X : Cx} {J : Hp → Prop} {exv : Str → Option Addr} {k : Nat} {W : WX} {N : List Str} {sc : Scope} {nm : List Str} {S : Sig} {H0 : Hp} {B : Addr → Prop} {ρ : Env} {pos p2 : Pos} {e a b c : Expr} {ra rb rc : M R} {es : List Expr} {rs : M (List R)}
theorem back_ok : ∀ {es : List Expr} {env : PySem.Env} {pos : Pos}, (∀ e ∈ es, okE e = true) → (backTo pos (starEach es env)).any (·.1) = false
  | [], _, _, _ => rfl
  | e :: es, env, pos, h => by
    rw [star_ok (h e List.mem_cons_self)]
    show (false || (backTo pos (starEach es env)).any (·.1)) = false
    rw [back_ok fun x hx => h x (List.mem_cons_of_mem _ hx)]
    rfl
theorem mkR_snd (n : Bool) (d : D) : (mkR n d).2 = d := by cases d <;> rfl
theorem elR_snd (n : Bool) (d : D) : (elR n d).2 = d := by cases d <;> rfl
/-- a value that a call made -/
theorem res_call {σ : St} {H H1 H2 : Hp} {d : D} {v : V} (fr : Fr J X.K H0 B ρ σ H1) (x : Ext J H H1) (r : Rep X.K H2 (fun a => H1 a = none) d v) : ResOk X.K H0 B ρ σ H H2 (mkR true d).1 (mkR true d).2 v := by
  have hN : ∀ a, H1 a = none → NN H0 B ρ σ true a := fun a h => fr.nn_new h
  cases r with
  | lst n h q => exact ⟨_, rfl, x.free _ n, _, h, q.sub fun a z _ => ⟨hN a z.1, z.2⟩⟩
  | dct n h q => exact ⟨_, rfl, x.free _ n, _, h, q.sub fun a z _ => ⟨hN a z.1, z.2⟩⟩
  | non => exact Rep.non
  | bl b => exact Rep.bl b
  | int b => exact Rep.int b
  | str b => exact Rep.str b
  | opq b => exact Rep.opq _
  | tup h q => exact .tup h (q.sub fun a n _ => hN a n)
  | prs h q => exact .prs h (q.sub fun a n _ => hN a n)
  | frz h q => exact .frz h (q.sub fun a n _ => hN a n)
/-! ### calls -/
theorem je_call (C : Cok X J exv k W N sc nm S) {f : Nat} {x : Str} (hx : nm[f]? = some x) (hg : glB sc x = true) (ok : ∀ a ∈ e :: es, okE a = true) (h : JA X J exv W H0 B (e :: es) ρ rs) :
    JE X J exv W H0 B (.Call (.Name x p2) (e :: es) [] pos) ρ (rs.bind fun rs => (S.call f (rs.map (·.2))).bind fun d => .ok (mkR true d)) := by
  intro σ H Q fr ns w kk
  obtain ⟨g1, g2⟩ := gl_of C hg
  obtain ⟨a, fd, ps, F⟩ := C.fns f x hx
  · refine tE_of (pe_callS (E := WE W) F.ok C.room g1 F.mg F.kp F.bi (passAt C.tk) pa_self g2 (star_ok (ok _ List.mem_cons_self)) (back_ok fun y hy => ok y (List.mem_cons_of_mem _ hy))) ?_
    refine h.use fr ns w fun rs e1 vs H1 x1 f1 q1 ns1 w1 => ?_
    refine ⟨rs.map (·.2), f1.j, ResAll.any f1 q1, ?_⟩
    cases hd : S.call f (rs.map (·.2)) with
    | stuck => rw [hd] at ns1; exact absurd rfl ns1
    | ok d =>
      intro v H' x2 r
      refine kk _ _ ?_ v H' (x1.trans x2) (res_call f1 x1 r)
      rw [e1]
      show (S.call f _).bind _ = _
      rw [hd]
      rfl
    | ex c =>
      intro C' H' hc x2
      rw [hd] at w1
      exact w1 c rfl C' H' hc x2
/-- what a built-in's call asks of the argument list -/
theorem je_bl (C : Cok X J exv k W N sc nm S) {b : Blt} {x : Str} (hx : x = b.name) (hg : glB sc x = true) (ok : ∀ a ∈ e :: es, okE a = true) (h : JA X J exv W H0 B (e :: es) ρ rs) :
    JE X J exv W H0 B (.Call (.Name x p2) (e :: es) [] pos) ρ (rs.bind fun rs => (dBlt b (rs.map (·.2))).bind fun d => .ok (mkR (allNew rs) d)) := by
  subst hx
  intro σ H Q fr ns w kk
  obtain ⟨g1, g2⟩ := gl_of C hg
  have hm := C.blt _ (blt_in b)
  have hs := star_ok (es := es) (env := X.env) (ok _ List.mem_cons_self)
  have hp : ∀ pos, (backTo pos (starEach es X.env)).any (·.1) = false := fun pos => back_ok fun y hy => ok y (List.mem_cons_of_mem _ hy)
  obtain ⟨r, ho, hr⟩ : ∃ r, CallR X b.val r ∧ ∀ l d, rs = .ok l → dBlt b (l.map (·.2)) = .ok d → BltP X J H0 B ρ σ l d r := by
    by_cases hh : ∃ l d, rs = .ok l ∧ dBlt b (l.map (·.2)) = .ok d
    · obtain ⟨l, d, e1, e2⟩ := hh
      obtain ⟨r, h1, h2⟩ := blt_rule (X := X) (H0 := H0) (B := B) (ρ := ρ) (σ := σ) C.jk C.calm C.room.units e2
      refine ⟨r, h1, fun l' d' e1' e2' => ?_⟩
      rw [e1] at e1'; cases e1'
      rw [e2] at e2'; cases e2'
      exact h2
    · exact ⟨_, callr_never, fun l d e1 e2 => absurd ⟨l, d, e1, e2⟩ hh⟩
  have go : tA X (e :: es) σ H fun vs H1 => r vs H1 Q := by
    refine h.use fr ns w fun rs e1 vs H1 x1 f1 q1 ns1 w1 => ?_
    rcases ok_of_ns ns1 with ⟨d, hd⟩ | ⟨c, hd⟩
    · refine hr rs d e1 hd H H1 vs Q f1 x1 q1 fun v H' x2 q => ?_
      refine kk _ _ ?_ v H' (x1.trans x2) q
      rw [e1]
      show (dBlt b _).bind _ = _
      rw [hd]
      rfl
    · exact absurd hd dBlt_ex
  have hb := blt_boot b
  have hn := blt_nn b
  cases b <;> first
    | exact tE_of (pe_callB ho g1 hm hb pa_self hn g2 hs (hp _)) go
    | exact tE_of (pe_callTy ho g1 hm hb pa_self hn g2 hs (hp _)) go
/-! ### d.get(k, x) -/
theorem base_ok {o : Expr} {m : Str} {env : PySem.Env} {w : Sem Value} (h : ∀ i p cp, o ≠ .Call (.Name i p) [] [] cp) : attributeBase o m env w = w := by
  unfold attributeBase
  split
  · rename_i id p pos
    exact absurd rfl (h _ _ _)
  · rfl
abbrev getF (ra rb rc : M R) : M R := ra.bind fun x => (asDct x).bind fun kvs => rb.bind fun r => rc.bind fun z => getD x.1 kvs r z
theorem je_get (C : Cok X J exv k W N sc nm S) {ap : Pos} (hl : (ap.endLine == pos.line) = true) (ho : ∀ i p cp, a ≠ .Call (.Name i p) [] [] cp) (ob : okE b = true) (oc : okE c = true)
    (ha : JE X J exv W H0 B a ρ ra) (hb : JE X J exv W H0 B b ρ rb) (hc : JE X J exv W H0 B c ρ rc) :
    JE X J exv W H0 B (.Call (.Attribute a "get" ap) [b, c] [] pos) ρ (getF ra rb rc) := by
  intro σ H Q fr ns w kk
  have t1 : starEach [b, c] X.env = [(false, eval b X.env), (false, eval c X.env)] := by rw [star_ok ob, star_ok oc]; rfl
  have m : L2.M2 X a "get" ap b c pos := ⟨base_ok ho, by rw [t1]; rfl, hl, by rw [t1]; rfl⟩
  refine tE_of (pe_dget2 (Nat.lt_of_le_of_lt (Nat.add_le_add_left (by decide : 1 ≤ 64) _) C.room.units) pe_self pe_self pe_self m) ?_
  refine ha.use fr ns w fun k1 d1 e1 v1 H1 x1 f1 q1 ns1 w1 => ?_
  subst e1
  cases d1 with
  | dct kvs =>
    obtain ⟨a', vs, rfl, hv, rk⟩ := r1_dct (q1.rep1 f1)
    refine ⟨a', rfl, .inl ⟨vs, .inl hv⟩, ?_⟩
    refine hb.use f1 ns1 w1 fun k2 d2 e2 v2 H2 x2 f2 q2 ns2 w2 => ?_
    refine hc.use f2 ns2 w2 fun k3 d3 e3 v3 H3 x3 f3 q3 ns3 w3 => ?_
    subst e2 e3
    have hv3 := (x2.trans x3).keep _ _ hv fun _ q => nomatch q
    have rk3 := rk.ext (x2.trans x3)
    cases hk : keyD d2 with
    | none => simp only [getD, hk] at ns3; exact absurd rfl ns3
    | some key =>
      simp only [getD, hk] at ns3
      obtain ⟨g, ge⟩ := guard_ns ns3
      obtain rfl := key_rep hk (q2.rep1 f2).any
      refine ⟨valV vs key, DGet.k hv3, ?_⟩
      refine kk (elR (k1.new && k3.new) ((lookD kvs key).getD d3)).1 (elR (k1.new && k3.new) ((lookD kvs key).getD d3)).2 ?_ _ H3 ((x1.trans x2).trans x3) (res_pl ?_)
      · show getD k1 kvs (k2, d2) (k3, d3) = _
        simp only [getD, hk]
        exact ge
      · have q := look_rep (k := key) rk3
        cases hl : lookD kvs key with
        | none =>
          rw [hl] at q
          rw [q]
          exact (q3.rep f2 x3 g).sub fun a n _ => n.le fun z => (Bool.and_eq_true_iff.mp z).2
        | some d =>
          rw [hl] at q
          obtain ⟨v, hv4, rv⟩ := q
          rw [hv4]
          exact rv.sub fun a n _ => n.le fun z => (Bool.and_eq_true_iff.mp z).1
  | _ => exact absurd rfl ns1
/-! ### list(range(..)) -/
abbrev lrgF (ra rb : M R) : M R := ra.bind fun x => rb.bind fun y => match x.2, y.2 with
    | .int i, .int j => guard' (-(2 ^ 62) ≤ i ∧ i < 2 ^ 62 ∧ -(2 ^ 62) ≤ j ∧ j < 2 ^ 62 ∧ (j - i).toNat ≤ lim) (.ok (.top true, .lst (rngD i j)))
    | _, _ => .stuck
theorem rng_reps {K : PySem.W.Frag} {H : Hp} {P : Addr → Prop} (i j : Int) : Reps K H P (rngD i j) (rgV i j) := by
  unfold rngD rgV
  generalize (j - i).toNat = n
  have : ∀ l : List Nat, Reps K H P (l.map fun m => D.int (i + (m : Nat))) (l.map fun m => V.int (i + (m : Nat))) := by
    intro l
    induction l with
    | nil => exact .nil
    | cons m l ih => exact .cons (.int _) ih
  exact this _
theorem lrg_ns {i j : D} (h : (match i, j with
    | .int i, .int j => guard' (-(2 ^ 62) ≤ i ∧ i < 2 ^ 62 ∧ -(2 ^ 62) ≤ j ∧ j < 2 ^ 62 ∧ (j - i).toNat ≤ lim) (.ok (.top true, .lst (rngD i j)))
    | _, _ => .stuck : M R) ≠ .stuck) : ∃ a b, i = .int a ∧ j = .int b := by
  split at h
  · exact ⟨_, _, rfl, rfl⟩
  · exact absurd rfl h
theorem je_lrg1 (C : Cok X J exv k W N sc nm S) {p3 p4 : Pos} (hg : glB sc "list" = true) (hg2 : glB sc "range" = true) (ob : okE b = true) (hb : JE X J exv W H0 B b ρ rb) :
    JE X J exv W H0 B (.Call (.Name "list" p2) [.Call (.Name "range" p3) [b] [] p4] [] pos) ρ (lrgF (.ok (.pl true, .int 0)) rb) := by
  intro σ H Q fr ns w kk
  refine tE_of (pe_listRg C.calm (gl_of C hg).1 (C.blt _ (by decide +kernel)) (prg_1 (gl_of C hg2).1 (C.blt _ (by decide +kernel)) pe_self (star_ok ob))) ?_
  refine hb.use (f := fun y => (match (D.int 0), y.2 with
    | .int i, .int j => guard' (-(2 ^ 62) ≤ i ∧ i < 2 ^ 62 ∧ -(2 ^ 62) ≤ j ∧ j < 2 ^ 62 ∧ (j - i).toNat ≤ lim) (.ok (.top true, .lst (rngD i j)))
    | _, _ => .stuck : M R)) fr ns w fun k1 d1 e1 v1 H1 x1 f1 q1 ns1 w1 => ?_
  obtain ⟨i, j, ei, ej⟩ := lrg_ns ns1
  cases ei
  subst e1
  have ej : d1 = .int j := ej
  subst ej
  obtain rfl := r1_int (q1.rep1 f1)
  obtain ⟨⟨g1, g2, g3, g4, g5⟩, ge⟩ := guard_ns ns1
  refine ⟨j, rfl, ⟨g1, g2, g3, g4, Nat.le_trans g5 (by decide)⟩, fun q hq => ?_⟩
  exact kk _ _ ge _ _ (x1.trans (Ext.new C.jk hq)) (res_lst0 C.jk hq x1 (rng_reps _ _))
theorem je_lrg2 (C : Cok X J exv k W N sc nm S) {p3 p4 : Pos} (hg : glB sc "list" = true) (hg2 : glB sc "range" = true) (oa : okE a = true) (ob : okE b = true) (ha : JE X J exv W H0 B a ρ ra) (hb : JE X J exv W H0 B b ρ rb) :
    JE X J exv W H0 B (.Call (.Name "list" p2) [.Call (.Name "range" p3) [a, b] [] p4] [] pos) ρ (lrgF ra rb) := by
  intro σ H Q fr ns w kk
  refine tE_of (pe_listRg C.calm (gl_of C hg).1 (C.blt _ (by decide +kernel)) (prg_2 (gl_of C hg2).1 (C.blt _ (by decide +kernel)) pe_self pe_self (star_ok oa) (star_ok ob) (back_ok (by intro e he; simp at he; subst he; exact ob)))) ?_
  refine ha.use fr ns w fun k1 d1 e1 v1 H1 x1 f1 q1 ns1 w1 => ?_
  refine hb.use f1 ns1 w1 fun k2 d2 e2 v2 H2 x2 f2 q2 ns2 w2 => ?_
  obtain ⟨i, j, ei, ej⟩ := lrg_ns ns2
  subst e1 e2
  have ei : d1 = .int i := ei
  have ej : d2 = .int j := ej
  subst ei ej
  obtain rfl := r1_int (q1.rep1 f1)
  obtain rfl := r1_int (q2.rep1 f2)
  obtain ⟨⟨g1, g2, g3, g4, g5⟩, ge⟩ := guard_ns ns2
  refine ⟨i, j, rfl, rfl, ⟨g1, g2, g3, g4, Nat.le_trans g5 (by decide)⟩, fun q hq => ?_⟩
  exact kk _ _ ge _ _ ((x1.trans x2).trans (Ext.new C.jk hq)) (res_lst0 C.jk hq (x1.trans x2) (rng_reps _ _))
abbrev trgF (ra rb : M R) : M R := ra.bind fun x => rb.bind fun y => match x.2, y.2 with
    | .int i, .int j => guard' (-(2 ^ 62) ≤ i ∧ i < 2 ^ 62 ∧ -(2 ^ 62) ≤ j ∧ j < 2 ^ 62 ∧ (j - i).toNat ≤ lim) (.ok (.pl true, .tup (rngD i j)))
    | _, _ => .stuck
theorem trg_ns {i j : D} (h : (match i, j with
    | .int i, .int j => guard' (-(2 ^ 62) ≤ i ∧ i < 2 ^ 62 ∧ -(2 ^ 62) ≤ j ∧ j < 2 ^ 62 ∧ (j - i).toNat ≤ lim) (.ok (.pl true, .tup (rngD i j)))
    | _, _ => .stuck : M R) ≠ .stuck) : ∃ a b, i = .int a ∧ j = .int b := by
  split at h
  · exact ⟨_, _, rfl, rfl⟩
  · exact absurd rfl h
theorem je_trg1 (C : Cok X J exv k W N sc nm S) {p3 p4 : Pos} (hg : glB sc "tuple" = true) (hg2 : glB sc "range" = true) (ob : okE b = true) (hb : JE X J exv W H0 B b ρ rb) :
    JE X J exv W H0 B (.Call (.Name "tuple" p2) [.Call (.Name "range" p3) [b] [] p4] [] pos) ρ (trgF (.ok (.pl true, .int 0)) rb) := by
  intro σ H Q fr ns w kk
  refine tE_of (pe_tupRgP C.calm (gl_of C hg).1 (C.blt _ (by decide +kernel)) (prg_1 (gl_of C hg2).1 (C.blt _ (by decide +kernel)) pe_self (star_ok ob))) ?_
  refine hb.use (f := fun y => (match (D.int 0), y.2 with
    | .int i, .int j => guard' (-(2 ^ 62) ≤ i ∧ i < 2 ^ 62 ∧ -(2 ^ 62) ≤ j ∧ j < 2 ^ 62 ∧ (j - i).toNat ≤ lim) (.ok (.pl true, .tup (rngD i j)))
    | _, _ => .stuck : M R)) fr ns w fun k1 d1 e1 v1 H1 x1 f1 q1 ns1 w1 => ?_
  obtain ⟨i, j, ei, ej⟩ := trg_ns ns1
  cases ei
  subst e1
  have ej : d1 = .int j := ej
  subst ej
  obtain rfl := r1_int (q1.rep1 f1)
  obtain ⟨⟨g1, g2, g3, g4, g5⟩, ge⟩ := guard_ns ns1
  refine ⟨j, rfl, ⟨g1, g2, g3, g4, Nat.le_trans g5 (by decide)⟩, fun q o hq ho => ?_⟩
  exact kk _ _ ge _ _ (x1.trans (Ext.new C.jk hq)) (res_tup C.jk hq ho (rng_reps _ _))
theorem je_trg2 (C : Cok X J exv k W N sc nm S) {p3 p4 : Pos} (hg : glB sc "tuple" = true) (hg2 : glB sc "range" = true) (oa : okE a = true) (ob : okE b = true) (ha : JE X J exv W H0 B a ρ ra) (hb : JE X J exv W H0 B b ρ rb) :
    JE X J exv W H0 B (.Call (.Name "tuple" p2) [.Call (.Name "range" p3) [a, b] [] p4] [] pos) ρ (trgF ra rb) := by
  intro σ H Q fr ns w kk
  refine tE_of (pe_tupRgP C.calm (gl_of C hg).1 (C.blt _ (by decide +kernel)) (prg_2 (gl_of C hg2).1 (C.blt _ (by decide +kernel)) pe_self pe_self (star_ok oa) (star_ok ob) (back_ok (by intro e he; simp at he; subst he; exact ob)))) ?_
  refine ha.use fr ns w fun k1 d1 e1 v1 H1 x1 f1 q1 ns1 w1 => ?_
  refine hb.use f1 ns1 w1 fun k2 d2 e2 v2 H2 x2 f2 q2 ns2 w2 => ?_
  obtain ⟨i, j, ei, ej⟩ := trg_ns ns2
  subst e1 e2
  have ei : d1 = .int i := ei
  have ej : d2 = .int j := ej
  subst ei ej
  obtain rfl := r1_int (q1.rep1 f1)
  obtain rfl := r1_int (q2.rep1 f2)
  obtain ⟨⟨g1, g2, g3, g4, g5⟩, ge⟩ := guard_ns ns2
  refine ⟨i, j, rfl, rfl, ⟨g1, g2, g3, g4, Nat.le_trans g5 (by decide)⟩, fun q o hq ho => ?_⟩
  exact kk _ _ ge _ _ ((x1.trans x2).trans (Ext.new C.jk hq)) (res_tup C.jk hq ho (rng_reps _ _))
theorem pyL_getD (ds : List D) (i : Nat) : (pyL ds).getD i PyData.none = py (ds.getD i .non) := by
  induction ds generalizing i with
  | nil => rfl
  | cons d ds ih =>
    cases i with
    | zero => rfl
    | succ i => exact ih i
theorem pyL_len (ds : List D) : (pyL ds).length = ds.length := by
  induction ds with
  | nil => rfl
  | cons d ds ih => exact congrArg (· + 1) ih
theorem pyL_mem {p : PyData} : ∀ {ds : List D}, p ∈ pyL ds → ∃ d ∈ ds, p = py d
  | [], h => by cases h
  | d :: ds, h => by
    rcases List.mem_cons.mp h with e | e
    · exact ⟨d, List.mem_cons_self, e⟩
    · obtain ⟨d', h1, h2⟩ := pyL_mem e
      exact ⟨d', List.mem_cons_of_mem _ h1, h2⟩
theorem pyOkL_mem {d : D} : ∀ {ds : List D}, pyOkL ds = true → d ∈ ds → pyOk d = true
  | [], _, h => by cases h
  | e :: ds, h, hd => by
    obtain ⟨g1, g2⟩ := Bool.and_eq_true_iff.mp (show (pyOk e && pyOkL ds) = true from h)
    rcases List.mem_cons.mp hd with z | z
    · rw [z]; exact g1
    · exact pyOkL_mem g2 z
theorem minOk_alike {ds : List D} (h : minOk ds = true) : pyOkL ds = true ∧ PySem.W.AlikeAll (pyL ds) ∧ PyData.depthAll (pyL ds) ≤ 60 := by
  unfold minOk at h
  obtain ⟨h, h4⟩ := Bool.and_eq_true_iff.mp h
  obtain ⟨h, h3⟩ := Bool.and_eq_true_iff.mp h
  obtain ⟨h1, h2⟩ := Bool.and_eq_true_iff.mp h
  refine ⟨h1, ⟨fun x hx y hy => ?_, fun x hx => ?_⟩, of_decide_eq_true h4⟩
  · obtain ⟨d, hd, rfl⟩ := pyL_mem hx
    obtain ⟨e, he, rfl⟩ := pyL_mem hy
    exact List.all_eq_true.mp (List.all_eq_true.mp h2 d hd) e he
  · obtain ⟨d, hd, rfl⟩ := pyL_mem hx
    have h3 := List.all_eq_true.mp h3 d hd
    have h1 := pyOkL_mem h1 hd
    intro z
    cases d <;> first | (cases z; done) | (cases h1; done) | (cases h3; done)
theorem dMin_ex {a : D} {c : Str} : dMin a ≠ .ex c := by
  unfold dMin
  split
  · unfold guard'; split <;> intro h <;> cases h
  · intro h; cases h
theorem je_mn (C : Cok X J exv k W N sc nm S) (hg : glB sc "min" = true) (oa : okE a = true) (ha : JE X J exv W H0 B a ρ ra) : JE X J exv W H0 B (.Call (.Name "min" p2) [a] [] pos) ρ (ra.bind fun x => (dMin x.2).bind fun d => .ok (elR x.1.new d)) := by
  intro σ H Q fr ns w kk
  refine tE_of (pe_callB (call_minD C.calm C.room.units) (gl_of C hg).1 (C.blt _ (by decide +kernel)) (blt_boot .min) (pa_cons pe_self pa_nil (star_ok oa)) (blt_nn .min) (gl_of C hg).2 (star_ok oa) rfl) ?_
  refine ha.use fr ns w fun k1 d1 e1 v1 H1 x1 f1 q1 ns1 w1 => ?_
  rcases ok_of_ns ns1 with ⟨d, hd⟩ | ⟨c, hd⟩
  · cases d1 with
    | lst ds =>
      cases ds with
      | nil => cases hd
      | cons x xs =>
        obtain ⟨g, ge⟩ := guard_ok (show guard' (minOk (x :: xs) = true) (M.ok (xs.foldl (fun a y => if dLtD y a then y else a) x)) = .ok d from hd)
        obtain ⟨m1, m2, m3⟩ := minOk_alike g
        obtain ⟨a', ys, rfl, hv, r⟩ := r1_lst (q1.rep1 f1)
        refine ⟨a', ys, py x, pyL xs, rfl, .of hv, reps_dp m1 r, m2, m3, fun y hy => ?_⟩
        obtain ⟨d', hd', rd⟩ := r.getV hy
        have e2 := (PySem.W.argBest_fold (fun a b : D => PySem.W.dataLt (py a) (py b)) D.non x xs xs.length (Nat.le_refl _)).2
        have e3 : (fun i j => PySem.W.dataLt ((py x :: pyL xs).getD i PyData.none) ((py x :: pyL xs).getD j PyData.none)) = fun i j => PySem.W.dataLt (py ((x :: xs).getD i .non)) (py ((x :: xs).getD j .non)) := by
          funext i j
          have := pyL_getD (x :: xs)
          exact congr (congrArg _ (this i)) (this j)
        rw [e3, pyL_len] at hd'
        rw [List.getD_eq_getElem?_getD, hd', List.take_length] at e2
        have e4 : d' = d := by
          cases ge
          exact e2
        subst e4
        refine kk _ _ ?_ y H1 x1 (res_pl rd)
        rw [e1]
        show (dMin (.lst (x :: xs))).bind _ = _
        rw [hd]
        rfl
    | _ => cases hd
  · exact absurd hd dMin_ex
end
end PyV
namespace PyV
open PySem L2
section
variable {J : Hp → Prop} {K : PySem.W.Frag} {H0 H H1 H2 H' : Hp} {B : Addr → Prop} {ρ ρ' ρ1 ρ2 : Env} {σ σ' σ1 σ2 : St} {d : D} {v : V} {n : Bool} {a p : Addr} {i : Nat}
/-- from one state of a frame to another: only what is own may have changed, only what is new may have become own -/
structure Stp (ρ : Env) (σ : St) (H : Hp) (ρ' : Env) (σ' : St) (H' : Hp) : Prop where
  own : ∀ a, OwnS ρ' σ' a → OwnS ρ σ a ∨ H a = none
  keep : ∀ a o, H a = some o → (∀ ps, o ≠ .tbl ps) → ¬ OwnS ρ σ a → H' a = some o
  free : ∀ a, H' a = none → H a = none
theorem Stp.refl : Stp ρ σ H ρ σ H := ⟨fun _ h => .inl h, fun _ _ h _ _ => h, fun _ h => h⟩
theorem Stp.trans (a : Stp ρ σ H ρ1 σ1 H1) (b : Stp ρ1 σ1 H1 ρ2 σ2 H2) : Stp ρ σ H ρ2 σ2 H2 where
  own := fun c h => by
    rcases b.own c h with z | z
    · exact a.own c z
    · exact .inr (a.free c z)
  keep := fun c o h n no => b.keep c o (a.keep c o h n no) n fun z => by
    rcases a.own c z with q | q
    · exact no q
    · rw [q] at h; cases h
  free := fun c h => a.free c (b.free c h)
theorem Stp.ext (e : Ext J H H') : Stp ρ σ H ρ σ H' := ⟨fun _ h => .inl h, fun a o h n _ => e.keep a o h n, e.free⟩
theorem Fr.own_chg (f : Fr J K H0 B ρ σ H) (o : OwnS ρ σ a) : ∃ q, H a = some q ∧ Chg q := by
  obtain ⟨i, d, h1, h2⟩ := o
  obtain ⟨v, h3, h4⟩ := f.at_ i _ d h1
  obtain ⟨b, rfl, _, _, t⟩ := h4
  rw [h2] at h3
  cases h3
  cases d with
  | lst ds => obtain ⟨xs, h, r⟩ := t; exact ⟨_, h, trivial⟩
  | dct ds => obtain ⟨xs, h, r⟩ := t; exact ⟨_, h, trivial⟩
  | _ => exact t.elim
theorem Stp.mov (f : Fr J K H0 B ρ σ H) (s : Stp ρ σ H ρ' σ' H') : Mov K H H' (NN H0 B ρ σ n) (NN H0 B ρ' σ' n) := by
  have keepR : ∀ a u, (∀ ps, u ≠ .tbl ps) → ¬ Chg u → Rd H a u → Rd H' a u := fun a u n c r => by
    rcases r with r | ⟨o, r⟩
    · refine .inl (s.keep a _ r n fun z => ?_)
      obtain ⟨q, h1, h2⟩ := f.own_chg z
      rw [r] at h1; cases h1
      exact c h2
    · refine .inr ⟨o, s.keep a _ r (fun _ z => nomatch z) fun z => ?_⟩
      obtain ⟨q, h1, h2⟩ := f.own_chg z
      rw [r] at h1; cases h1
      exact h2
  refine ⟨fun a xs h => h.elim (fun z => .inl (keepR a _ (fun _ q => nomatch q) (fun q => q) z)) .inr, fun a xs h => h.elim (fun ⟨o, h1, h2, z⟩ => .inl ⟨o, h1, h2, ?_⟩) .inr, fun a xs h => h.elim (fun ⟨o, z⟩ => .inl ⟨o, ?_⟩) .inr, fun a xs h e => ?_, fun a xs h e => ?_⟩
  · refine s.keep a _ z (fun _ q => nomatch q) fun w => ?_
    obtain ⟨q, h1, h2⟩ := f.own_chg w
    rw [z] at h1; cases h1
    exact h2
  · refine s.keep a _ z (fun _ q => nomatch q) fun w => ?_
    obtain ⟨q, h1, h2⟩ := f.own_chg w
    rw [z] at h1; cases h1
    exact h2
  · refine ⟨⟨fun z => ?_, h.2⟩, s.keep a _ e (fun _ q => nomatch q) h.1⟩
    rcases s.own a z with q | q
    · exact h.1 q
    · rw [q] at e; cases e
  · refine ⟨⟨fun z => ?_, h.2⟩, s.keep a _ e (fun _ q => nomatch q) h.1⟩
    rcases s.own a z with q | q
    · exact h.1 q
    · rw [q] at e; cases e
theorem Rep.stp (f : Fr J K H0 B ρ σ H) (s : Stp ρ σ H ρ' σ' H') (r : Rep K H (NN H0 B ρ σ n) d v) : Rep K H' (NN H0 B ρ' σ' n) d v := r.move (s.mov f)
theorem Reps.stp {ds : List D} {vs : List V} (f : Fr J K H0 B ρ σ H) (s : Stp ρ σ H ρ' σ' H') (r : Reps K H (NN H0 B ρ σ n) ds vs) : Reps K H' (NN H0 B ρ' σ' n) ds vs := r.move (s.mov f)
theorem TopO.stp (f : Fr J K H0 B ρ σ H) (s : Stp ρ σ H ρ' σ' H') (hk : H' a = H a) (t : TopO K H (NN H0 B ρ σ n) d a) : TopO K H' (NN H0 B ρ' σ' n) d a := by
  cases d with
  | lst ds => obtain ⟨xs, h, r⟩ := t; exact ⟨xs, hk.trans h, r.move ((s.mov f).but a)⟩
  | dct ds => obtain ⟨xs, h, r⟩ := t; exact ⟨xs, hk.trans h, r.move ((s.mov f).but a)⟩
  | _ => exact t.elim
theorem set_get {α : Type} {l : List α} {i j : Nat} {x : α} {y : α} (h : (l.set i x)[j]? = some y) : (i = j ∧ y = x ∧ i < l.length) ∨ (i ≠ j ∧ l[j]? = some y) := by
  by_cases e : i = j
  · subst e
    by_cases hl : i < l.length
    · rw [List.getElem?_set_self hl] at h
      exact .inl ⟨rfl, (Option.some.inj h).symm, hl⟩
    · rw [List.getElem?_eq_none (by simpa using hl)] at h
      cases h
  · rw [List.getElem?_set_ne e] at h
    exact .inr ⟨e, h⟩
/-- a slot forgets own-ness or is given something that is no own: what is own is less -/
theorem ownS_less {t : Option (Tg × D)} {w : Option V} (ht : ∀ d, t ≠ some (.own, d)) (h : OwnS (ρ.set i t) (σ.set i w) a) : OwnS ρ σ a := by
  obtain ⟨j, d, h1, h2⟩ := h
  rcases set_get h1 with ⟨e, e1, _⟩ | ⟨e, h1⟩
  · exact absurd e1.symm (ht d)
  · rcases set_get h2 with ⟨e', _, _⟩ | ⟨_, h2⟩
    · exact absurd e' e
    · exact ⟨j, d, h1, h2⟩
theorem Fr.put (f : Fr J K H0 B ρ σ H) {t : Option (Tg × D)} {w : Option V} (ht : ∀ d, t ≠ some (.own, d))
    (hv : ∀ n d, t = some (if n then .new else .old, d) → ∃ v, w = some v ∧ Rep K H (NN H0 B ρ σ n) d v) : Fr J K H0 B (ρ.set i t) (σ.set i w) H ∧ Stp ρ σ H (ρ.set i t) (σ.set i w) H := by
  have s : Stp ρ σ H (ρ.set i t) (σ.set i w) H := ⟨fun a h => .inl (ownS_less ht h), fun _ _ h _ _ => h, fun _ h => h⟩
  refine ⟨⟨by simpa using f.len, f.j, f.ext, f.hid, fun j tg d h => ?_, fun j l a d d' h1 h2 h3 h4 => ?_⟩, s⟩
  · rcases set_get h with ⟨e, e1, hl⟩ | ⟨e, h1⟩
    · subst e
      cases tg with
      | own => exact absurd e1.symm (ht d)
      | new =>
        obtain ⟨v, hw, r⟩ := hv true d e1.symm
        exact ⟨v, by rw [hw, List.getElem?_set_self (by rw [← f.len]; exact hl)], Rep.stp f s r⟩
      | old =>
        obtain ⟨v, hw, r⟩ := hv false d e1.symm
        exact ⟨v, by rw [hw, List.getElem?_set_self (by rw [← f.len]; exact hl)], Rep.stp f s r⟩
    · obtain ⟨v, h2, h3⟩ := f.at_ j tg d h1
      refine ⟨v, by rw [List.getElem?_set_ne e]; exact h2, ?_⟩
      cases tg with
      | own => obtain ⟨b, e1, e2, e3, t1⟩ := h3; exact ⟨b, e1, e2, e3, t1.stp f s rfl⟩
      | new => exact Rep.stp f s h3
      | old => exact Rep.stp f s h3
  · rcases set_get h1 with ⟨e, e1, _⟩ | ⟨e, h1⟩
    · exact absurd e1.symm (ht d)
    · rcases set_get h2 with ⟨e', e1, _⟩ | ⟨e', h2⟩
      · exact absurd e1.symm (ht d')
      · rw [List.getElem?_set_ne e] at h3
        rw [List.getElem?_set_ne e'] at h4
        exact f.dis j l a d d' h1 h2 h3 h4
theorem repK_pure : ∀ {N N' : Addr → Prop} {ds : List (Key × D)} {vs : List (Key × V)}, pureL (ds.map (·.2)) = true → RepK K H N ds vs → RepK K H N' ds vs
  | _, _, _, _, _, .nil => .nil
  | _, _, _, _, h, .cons r q => by
    have h' := (Bool.and_eq_true_iff).mp (show (pureD _ && pureL _) = true from h)
    exact .cons (r.pure h'.1) (repK_pure h'.2 q)
theorem nn_pure {N N' : Addr → Prop} (h : pureE d = true) (s : True) (t : TopO K H N d a) : TopO K H N' d a := by
  cases d with
  | lst ds => obtain ⟨xs, h1, r⟩ := t; exact ⟨xs, h1, r.pure h⟩
  | dct ds =>
    obtain ⟨xs, h1, r⟩ := t
    exact ⟨xs, h1, repK_pure h r⟩
  | _ => exact t.elim
/-- a slot is given a new own thing, just made at p -/
theorem Fr.putTop (f : Fr J K H0 B ρ σ H1) (x : Ext J H1 H2) (hp : H1 p = none) (t : TopO K H2 (NN H0 B ρ σ n) d p) (hn : (n || pureE d) = true) (hi : i < ρ.length) :
    Fr J K H0 B (ρ.set i (some (.own, d))) (σ.set i (some (.ref p))) H2 ∧ Stp ρ σ H1 (ρ.set i (some (.own, d))) (σ.set i (some (.ref p))) H2 := by
  have less : ∀ a, OwnS (ρ.set i (some (.own, d))) (σ.set i (some (.ref p))) a → OwnS ρ σ a ∨ a = p := fun a h => by
    obtain ⟨j, d', h1, h2⟩ := h
    rcases set_get h1 with ⟨e, e1, _⟩ | ⟨e, h1⟩
    · subst e
      rw [List.getElem?_set_self (by rw [← f.len]; exact hi)] at h2
      cases h2
      exact .inr rfl
    · rw [List.getElem?_set_ne e] at h2
      exact .inl ⟨j, d', h1, h2⟩
  have np : ¬ OwnS ρ σ p := fun z => f.own_some z hp
  have nb : ¬ B p := fun z => (f.hid p z).1 hp
  have n0 : H0 p = none := f.ext.free p hp
  have s : Stp ρ σ H1 (ρ.set i (some (.own, d))) (σ.set i (some (.ref p))) H2 := ⟨fun a h => (less a h).imp id fun z => by rw [z]; exact hp, fun a o h n _ => x.keep a o h n, x.free⟩
  have fx := f.go x
  refine ⟨⟨by simpa using f.len, fx.j, fx.ext, fx.hid, fun j tg d' h => ?_, fun j l a d1 d2 h1 h2 h3 h4 => ?_⟩, s⟩
  · rcases set_get h with ⟨e, e1, hl⟩ | ⟨e, h1⟩
    · subst e
      cases e1
      refine ⟨.ref p, by rw [List.getElem?_set_self (by rw [← f.len]; exact hi)], p, rfl, n0, nb, ?_⟩
      have t1 : TopO K H2 (But (NN H0 B ρ σ true) p) d p := by
        have tb : ∀ m, TopO K H2 (NN H0 B ρ σ m) d p → TopO K H2 (But (NN H0 B ρ σ m) p) d p := fun m t => by
          cases d with
          | lst ds => obtain ⟨xs, h1, r⟩ := t; exact ⟨xs, h1, r.sub fun b q _ => ⟨q, q.2⟩⟩
          | dct ds => obtain ⟨xs, h1, r⟩ := t; exact ⟨xs, h1, r.sub fun b q _ => ⟨q, q.2⟩⟩
          | _ => exact t.elim
        cases n with
        | true => exact tb true t
        | false => exact tb true (nn_pure hn trivial t)
      exact t1.sub fun b q _ => ⟨fun z => (less b z).elim q.1.1 q.2, q.1.2⟩
    · obtain ⟨v, h2, h3⟩ := f.at_ j tg d' h1
      refine ⟨v, by rw [List.getElem?_set_ne e]; exact h2, ?_⟩
      cases tg with
      | own =>
        obtain ⟨b, e1, e2, e3, t1⟩ := h3
        refine ⟨b, e1, e2, e3, t1.stp f s ?_⟩
        obtain ⟨q, hq, cq⟩ := f.own_chg ⟨j, d', h1, by rw [← e1]; exact h2⟩
        rw [hq]
        exact x.keep b q hq fun ps z => by subst z; exact cq
      | new => exact Rep.stp f s h3
      | old => exact Rep.stp f s h3
  · rcases set_get h1 with ⟨e, e1, _⟩ | ⟨e, h1⟩
    · rcases set_get h2 with ⟨e', _, _⟩ | ⟨e', h2⟩
      · exact e.symm.trans e'
      · subst e
        rw [List.getElem?_set_self (by rw [← f.len]; exact hi)] at h3
        cases h3
        rw [List.getElem?_set_ne e'] at h4
        exact absurd ⟨l, d2, h2, h4⟩ np
    · rw [List.getElem?_set_ne e] at h3
      rcases set_get h2 with ⟨e', _, _⟩ | ⟨e', h2⟩
      · subst e'
        rw [List.getElem?_set_self (by rw [← f.len]; exact hi)] at h4
        cases h4
        exact absurd ⟨j, d1, h1, h3⟩ np
      · rw [List.getElem?_set_ne e'] at h4
        exact f.dis j l a d1 d2 h1 h2 h3 h4
/-- an own thing is changed -/
theorem Fr.chg {o q : HO} (jk : JOk J) (f : Fr J K H0 B ρ σ H) (h : ρ[i]? = some (some (.own, d))) (hs : σ[i]? = some (some (.ref a))) (ho : H a = some o) (hj : J (upd H a q)) {d' : D} (t : TopO K (upd H a q) (NN H0 B ρ σ true) d' a) :
    Fr J K H0 B (ρ.set i (some (.own, d'))) σ (upd H a q) ∧ Stp ρ σ H (ρ.set i (some (.own, d'))) σ (upd H a q) := by
  have hi : i < ρ.length := (List.getElem?_eq_some_iff.mp h).1
  have oa : OwnS ρ σ a := ⟨i, d, h, hs⟩
  have same : ∀ b, OwnS (ρ.set i (some (.own, d'))) σ b → OwnS ρ σ b := fun b z => by
    obtain ⟨j, e, h1, h2⟩ := z
    rcases set_get h1 with ⟨e', _, _⟩ | ⟨_, h1⟩
    · subst e'; exact ⟨i, d, h, h2⟩
    · exact ⟨j, e, h1, h2⟩
  have s : Stp ρ σ H (ρ.set i (some (.own, d'))) σ (upd H a q) := ⟨fun b z => .inl (same b z), fun b u e n no => by
    rw [upd_ne (fun z => no (by rw [z]; exact oa))]; exact e, fun b e => by
    by_cases hb : b = a
    · rw [hb, upd_same] at e; cases e
    · rw [upd_ne hb] at e; exact e⟩
  obtain ⟨v0, hv0, a0, ea0, h0a, hba, t0⟩ := f.at_ i _ d h
  rw [hs] at hv0
  cases hv0
  cases ea0
  refine ⟨⟨by simpa using f.len, hj, ⟨fun b u e n => ?_, fun b e => f.ext.free b (s.free b e), fun _ => hj⟩, fun b hb => ⟨fun z => (f.hid b hb).1 (s.free b z), (f.hid b hb).2⟩, fun j tg d2 h2 => ?_, fun j l b d1 d2 h1 h2 h3 h4 => ?_⟩, s⟩
  · have e' := f.ext.keep b u e n
    rw [upd_ne (fun z => by rw [z, h0a] at e; cases e)]
    exact e'
  · rcases set_get h2 with ⟨e, e1, hl⟩ | ⟨e, h1⟩
    · subst e
      cases e1
      exact ⟨_, hs, a, rfl, h0a, hba, t.sub fun b z _ => ⟨fun w => z.1 (same b w), z.2⟩⟩
    · obtain ⟨v, h3, h4⟩ := f.at_ j tg d2 h1
      refine ⟨v, h3, ?_⟩
      cases tg with
      | own =>
        obtain ⟨b, e1, e2, e3, t1⟩ := h4
        refine ⟨b, e1, e2, e3, t1.stp f s (upd_ne fun z => e ?_)⟩
        subst e1 z
        exact f.dis i j _ d d2 h h1 hs h3
      | new => exact Rep.stp f s h4
      | old => exact Rep.stp f s h4
  · have g1 : ∃ d, ρ[j]? = some (some (.own, d)) := by
      rcases set_get h1 with ⟨e, _, _⟩ | ⟨_, h1⟩
      · subst e; exact ⟨d, h⟩
      · exact ⟨_, h1⟩
    have g2 : ∃ d, ρ[l]? = some (some (.own, d)) := by
      rcases set_get h2 with ⟨e, _, _⟩ | ⟨_, h2⟩
      · subst e; exact ⟨d, h⟩
      · exact ⟨_, h2⟩
    obtain ⟨e1, g1⟩ := g1
    obtain ⟨e2, g2⟩ := g2
    exact f.dis j l b e1 e2 g1 g2 h3 h4
/-- an own thing is own no more -/
theorem Fr.freeze (f : Fr J K H0 B ρ σ H) (h : ρ[i]? = some (some (.own, d))) : Fr J K H0 B (ρ.set i (some (.new, d))) σ H ∧ Stp ρ σ H (ρ.set i (some (.new, d))) σ H := by
  have hi : i < ρ.length := (List.getElem?_eq_some_iff.mp h).1
  have less : ∀ b, OwnS (ρ.set i (some (.new, d))) σ b → OwnS ρ σ b := fun b z => by
    obtain ⟨j, e, h1, h2⟩ := z
    rcases set_get h1 with ⟨_, e', _⟩ | ⟨_, h1⟩
    · cases e'
    · exact ⟨j, e, h1, h2⟩
  have s : Stp ρ σ H (ρ.set i (some (.new, d))) σ H := ⟨fun b z => .inl (less b z), fun _ _ h _ _ => h, fun _ h => h⟩
  refine ⟨⟨by simpa using f.len, f.j, f.ext, f.hid, fun j tg d2 h2 => ?_, fun j l b d1 d2 h1 h2 h3 h4 => ?_⟩, s⟩
  · rcases set_get h2 with ⟨e, e1, hl⟩ | ⟨e, h1⟩
    · subst e
      cases e1
      obtain ⟨v, h3, a, rfl, e2, e3, t⟩ := f.at_ i _ d h
      refine ⟨.ref a, h3, t.rep (fun b z _ => ⟨fun w => z.1 (less b w), z.2⟩) ⟨fun w => ?_, e3, fun _ => e2⟩⟩
      obtain ⟨j, e, h4, h5⟩ := w
      rcases set_get h4 with ⟨_, e', _⟩ | ⟨ne, h4⟩
      · cases e'
      · exact ne (f.dis i j a d e h h4 h3 h5)
    · obtain ⟨v, h3, h4⟩ := f.at_ j tg d2 h1
      refine ⟨v, h3, ?_⟩
      cases tg with
      | own => obtain ⟨b, e1, e2, e3, t1⟩ := h4; exact ⟨b, e1, e2, e3, t1.stp f s rfl⟩
      | new => exact Rep.stp f s h4
      | old => exact Rep.stp f s h4
  · rcases set_get h1 with ⟨_, e', _⟩ | ⟨_, h1⟩
    · cases e'
    · rcases set_get h2 with ⟨_, e', _⟩ | ⟨_, h2⟩
      · cases e'
      · exact f.dis j l b d1 d2 h1 h2 h3 h4
/-- a new list that no name reaches -/
theorem Fr.hide {o : HO} (jk : JOk J) (f : Fr J K H0 B ρ σ H) (hp : H p = none) : Fr J K H0 (fun a => B a ∨ a = p) ρ σ (upd H p o) := by
  have x : Ext J H (upd H p o) := Ext.new jk hp
  have fx := f.go x
  have sub : ∀ m b, NN H0 B ρ σ m b → H b ≠ none → NN H0 (fun a => B a ∨ a = p) ρ σ m b := fun m b q hb => ⟨q.1, fun z => z.elim q.2.1 fun w => hb (by rw [w]; exact hp), q.2.2⟩
  refine ⟨f.len, fx.j, fx.ext, fun a z => ?_, fun j tg d h => ?_, f.dis⟩
  · rcases z with z | z
    · exact fx.hid a z
    · subst z
      exact ⟨by rw [upd_same]; simp, f.ext.free _ hp⟩
  · obtain ⟨v, h2, h3⟩ := f.at_ j tg d h
    refine ⟨v, h2, ?_⟩
    cases tg with
    | own =>
      obtain ⟨b, e1, e2, e3, t1⟩ := h3
      refine ⟨b, e1, e2, fun z => z.elim e3 fun w => ?_, (t1.sub (sub true)).ext x⟩
      rw [w] at t1
      exact t1.some hp
    | new => exact Rep.ext x (Rep.sub (sub true) h3)
    | old => exact Rep.ext x (Rep.sub (sub false) h3)
/-- what no name reaches is changed -/
theorem Fr.updHid {xs ys : List V} (jk : JOk J) (f : Fr J K H0 B ρ σ H) (hb : B p) (h : H p = some (.lst xs)) : Fr J K H0 B ρ σ (upd H p (.lst ys)) := by
  have no : ∀ m b, NN H0 B ρ σ m b → b ≠ p := fun m b q z => q.2.1 (by rw [z]; exact hb)
  have fr : ∀ b, (upd H p (.lst ys)) b = none → H b = none := fun b e => by
    by_cases z : b = p
    · rw [z, upd_same] at e; cases e
    · rw [upd_ne z] at e; exact e
  refine ⟨f.len, jk.lst _ _ _ _ h f.j, ⟨fun b u e n => ?_, fun b e => f.ext.free b (fr b e), fun _ => jk.lst _ _ _ _ h f.j⟩, fun b z => ⟨fun w => (f.hid b z).1 (fr b w), (f.hid b z).2⟩, fun j tg d e => ?_, f.dis⟩
  · rw [upd_ne (fun z => by rw [z, (f.hid p hb).2] at e; cases e)]
    exact f.ext.keep b u e n
  · obtain ⟨v, h2, h3⟩ := f.at_ j tg d e
    refine ⟨v, h2, ?_⟩
    cases tg with
    | own =>
      obtain ⟨b, e1, e2, e3, t1⟩ := h3
      refine ⟨b, e1, e2, e3, ?_⟩
      have nb : b ≠ p := fun z => e3 (by rw [z]; exact hb)
      cases d with
      | lst ds => obtain ⟨zs, h4, r⟩ := t1; exact ⟨zs, by rw [upd_ne nb]; exact h4, r.upd h trivial fun c q => no _ c q.1⟩
      | dct ds => obtain ⟨zs, h4, r⟩ := t1; exact ⟨zs, by rw [upd_ne nb]; exact h4, r.upd h trivial fun c q => no _ c q.1⟩
      | _ => exact t1.elim
    | new => exact Rep.upd h trivial (no _) h3
    | old => exact Rep.upd h trivial (no _) h3
theorem Fr.wipe (f : Fr J K H0 B ρ σ H) : ∀ ts : List Nat, Fr J K H0 B (wipeE ρ ts) (wipe σ ts) H
  | [] => f
  | t :: ts => (Fr.put (t := none) (w := none) (Fr.wipe f ts) (fun _ z => by cases z) (fun _ _ z => by cases z)).1
end
end PyV
namespace PyV
open PySem L2
section
variable {X : Cx} {J : Hp → Prop} {exv : Str → Option Addr} {k : Nat} {W : WX} {N : List Str} {sc : Scope} {nm : List Str} {S : Sig} {H0 H H1 H2 : Hp} {B : Addr → Prop} {ρ ρ' : Env} {σ σ' : St} {pos p2 : Pos} {e a b c : Expr} {ra rb rc : M R} {es : List Expr} {rs : M (List R)} {n : Bool} {d : D} {v : V}
theorem tg_n (n : Bool) (d : D) : (elR n d).1.new = n ∨ ((elR n d).1.new = true ∧ pureD d = true) := by
  cases d <;> first | exact .inl rfl | exact .inr ⟨rfl, rfl⟩
/-- a slot is given a value -/
theorem Fr.setE (f : Fr J X.K H0 B ρ σ H) (r : Rep X.K H (NN H0 B ρ σ n) d v) (i : Nat) : Fr J X.K H0 B (setE ρ i n d) (σ.set i (some v)) H ∧ Stp ρ σ H (setE ρ i n d) (σ.set i (some v)) H := by
  unfold PyV.setE tgOf
  refine Fr.put f (fun d' => ?_) (fun m d' e => ⟨v, rfl, ?_⟩)
  · cases (elR n d).1.new <;> simp
  · cases e' : (elR n d).1.new with
    | true =>
      rw [e'] at e
      cases m with
      | true =>
        cases e
        rcases tg_n n d with q | ⟨_, q⟩
        · rw [e'] at q; rw [q]; exact r
        · exact r.pure q
      | false => simp at e
    | false =>
      rw [e'] at e
      cases m with
      | true => simp at e
      | false =>
        cases e
        rcases tg_n n d with q | ⟨q, _⟩
        · rw [e'] at q; rw [q]; exact r
        · rw [e'] at q; cases q
/-! ### targets -/
def tgs : List Nat → TGs
  | [] => gNil
  | i :: is => gCons (gName i) (tgs is)
theorem tgt_each : ∀ {is : List Nat} {es : List Expr} {env : PySem.Env}, tgtOk N sc is es = true → (assignEach es env).length = is.length ∧ (assignEach es env).findIdx? (·.1) = none ∧ es.length = is.length
  | [], [], _, _ => ⟨rfl, rfl, rfl⟩
  | [], _ :: _, _, h => by cases h
  | i :: is, [], _, h => by cases h
  | i :: is, e :: es, env, h => by
    cases e <;> first
      | (cases h; done)
      | (have h' := (Bool.and_eq_true_iff.mp h).2
         obtain ⟨h1, h2, h3⟩ := tgt_each (env := env) h'
         refine ⟨?_, ?_, by rw [List.length_cons, List.length_cons, h3]⟩
         · show (_ :: assignEach es env).length = _
           rw [List.length_cons, List.length_cons, h1]
         · show List.findIdx? (·.1) ((false, _) :: assignEach es env) = none
           rw [List.findIdx?_cons]
           simp [h2])
theorem loc_b (hs : X.env.scope = sc) {x : Str} (h : locB sc x = true) : Loc X.env.scope x := by
  unfold locB at h
  rw [hs]
  split at h
  · rename_i e; exact .inl e
  · rename_i e; exact .inr e
  · cases h
theorem pgs_of (hN : X.N = N) (nd : N.Nodup) (hs : X.env.scope = sc) (hf : ∀ x, setB sc x = true → X.fn x = true ∨ X.env.scope.names.lookup x = some .local) : ∀ {is : List Nat} {es : List Expr}, tgtOk N sc is es = true → PGs X es (tgs is)
  | [], [], _ => pgs_nil
  | [], _ :: _, h => by cases h
  | i :: is, [], h => by cases h
  | i :: is, e :: es, h => by
    cases e <;> first
      | (cases h; done)
      | (rename_i x p
         have h' := Bool.and_eq_true_iff.mp h
         obtain ⟨h1, h2⟩ := Bool.and_eq_true_iff.mp h'.1
         exact pgs_cons (pg_name (i := i) (by rw [hN]; exact nd) (by rw [hN]; exact of_decide_eq_true h1) (loc_b hs (setB_loc h2)) (hf x h2)) (pgs_of hN nd hs hf h'.2) rfl)
theorem bind_tgs {Q : St → Hp → Prop} : ∀ {is : List Nat} {ds : List D} {xs : List V} {ρ : Env} {σ : St}, is.length = xs.length → Fr J X.K H0 B ρ σ H → Reps X.K H (NN H0 B ρ σ n) ds xs →
    (∀ σ', Fr J X.K H0 B (bindTs n is ds ρ) σ' H → Stp ρ σ H (bindTs n is ds ρ) σ' H → σ'.length = σ.length → (∀ j, j ∉ is → σ'[j]? = σ[j]?) → Q σ' H) → tgs is xs σ H Q
  | [], ds, [], ρ, σ, _, f, r, h => ⟨rfl, by cases r; exact h σ f .refl rfl fun _ _ => rfl⟩
  | [], _, _ :: _, _, _, hl, _, _, _ => by cases hl
  | _ :: _, _, [], _, _, hl, _, _, _ => by cases hl
  | i :: is, _, x :: xs, ρ, σ, hl, f, .cons (d := d) (ds := ds) r q, h => by
    obtain ⟨f1, s1⟩ := f.setE (n := n) r i
    refine ⟨x, xs, rfl, ?_⟩
    show tgs is xs (σ.set i (some x)) H Q
    refine bind_tgs (ρ := setE ρ i n d) (ds := ds) (by simpa using hl) f1 (Reps.stp f s1 q) fun σ' f2 s2 l2 o2 => h σ' f2 (s1.trans s2) (l2.trans (by simp)) fun j hj => ?_
    rw [o2 j (fun z => hj (List.mem_cons_of_mem _ z)), List.getElem?_set_ne (fun z => hj (by rw [z]; exact List.mem_cons_self))]
/-- what a loop's or a comprehension's target does -/
structure TgP (X : Cx) (J : Hp → Prop) (H0 : Hp) (B : Addr → Prop) (ts : List Nat) (g : TG) : Prop where
  go : ∀ (n : Bool) (d : D) (v : V) (ρ ρ' : Env) (σ : St) (H : Hp) (Q : St → Hp → Prop), Fr J X.K H0 B ρ σ H → Rep X.K H (NN H0 B ρ σ n) d v → bindT n d ρ ts = .ok ρ' →
    (∀ σ', Fr J X.K H0 B ρ' σ' H → Stp ρ σ H ρ' σ' H → σ'.length = σ.length → (∀ j, j ∉ ts → σ'[j]? = σ[j]?) → Q σ' H) → g v σ H Q
def tgG (K : PySem.W.Frag) : List Nat → TG
  | [i] => gName i
  | ts => gTup K ts.length (tgs ts)
theorem tgG_tup {K : PySem.W.Frag} {ts : List Nat} (h : ∀ i, ts = [i] → False) : tgG K ts = gTup K ts.length (tgs ts) := by
  unfold tgG
  split
  · exact (h _ rfl).elim
  · rfl
theorem tg_of (hN : X.N = N) (nd : N.Nodup) (hs : X.env.scope = sc) (hf : ∀ x, setB sc x = true → X.fn x = true ∨ X.env.scope.names.lookup x = some .local) (hc : X.calm = true) {ts : List Nat} {tg : Expr} (h : tgOk N sc ts tg = true) : PG X tg (tgG X.K ts) ∧ ∀ (J : Hp → Prop) H0 B, TgP X J H0 B ts (tgG X.K ts) := by
  unfold tgOk at h
  split at h
  · rename_i i x p
    obtain ⟨h1, h2⟩ := Bool.and_eq_true_iff.mp h
    refine ⟨pg_name (by rw [hN]; exact nd) (by rw [hN]; exact of_decide_eq_true h1) (loc_b hs (setB_loc h2)) (hf x h2), fun J H0 B => ⟨fun n d v ρ ρ' σ H Q f r e k => ?_⟩⟩
    cases e
    obtain ⟨f1, s1⟩ := f.setE (n := n) r i
    exact k _ f1 s1 (by simp) fun j hj => List.getElem?_set_ne (fun z => hj (by rw [z]; exact List.mem_cons_self))
  · cases h
  · rename_i es k' p hts
    obtain ⟨e1, e2, e3⟩ := tgt_each (env := X.env) h
    rw [tgG_tup hts]
    refine ⟨pg_tup hc (pgs_of hN nd hs hf h) e1 e2, fun J H0 B => ⟨fun n d v ρ ρ' σ H Q f r e k => ?_⟩⟩
    have e' : bindTup n d ρ ts = .ok ρ' := by
      have hh : bindT n d ρ ts = bindTup n d ρ ts := by
        unfold bindT
        split
        · rename_i i
          exact (hts i rfl).elim
        · rfl
      rw [← hh]
      exact e
    unfold bindTup at e'
    split at e'
    · rename_i ds
      obtain ⟨hz, e'⟩ := guard_ok e'
      cases e'
      cases r with
      | @tup _ a xs _ h1 q =>
        exact ⟨a, xs, rfl, h1.sq, by rw [← q.length]; exact hz, bind_tgs (by rw [← q.length]; exact hz.symm) f q k⟩
    · rename_i ds
      obtain ⟨hz, e'⟩ := guard_ok e'
      cases e'
      cases r with
      | @prs _ a xs _ h1 q =>
        exact ⟨a, xs, rfl, h1, by rw [← q.length]; exact hz, bind_tgs (by rw [← q.length]; exact hz.symm) f q k⟩
    · cases e'
  · cases h
theorem bindT_ex {x : D} {ts : List Nat} {c : Str} : bindT n x ρ ts ≠ .ex c := by
  unfold bindT
  split
  · intro h; cases h
  · unfold bindTup
    split
    · unfold guard'; split <;> intro h <;> cases h
    · unfold guard'; split <;> intro h <;> cases h
    · intro h; cases h
end
end PyV
namespace PyV
open PySem L2
section
variable {K : PySem.W.Frag} {J : Hp → Prop} {H H' H'' : Hp} {N N' N'' : Addr → Prop}
theorem Mov.ofExt (e : Ext J H H') : Mov K H H' N N := ⟨fun _ _ => e.sqT, fun _ _ => e.sqP, fun _ _ => e.frzL, fun _ _ n h => ⟨n, e.keep _ _ h fun _ q => nomatch q⟩, fun _ _ n h => ⟨n, e.keep _ _ h fun _ q => nomatch q⟩⟩
theorem Mov.ofUpd {p : Addr} {q o : HO} (h : H p = some q) (c : Chg q) (n : ∀ a, N a → a ≠ p) : Mov K H (upd H p o) N N := ⟨fun _ _ => sqT_upd h c, fun _ _ => sqP_upd h c, fun _ _ => frzL_upd h c, fun a _ z e => ⟨z, by rw [upd_ne (n a z)]; exact e⟩, fun a _ z e => ⟨z, by rw [upd_ne (n a z)]; exact e⟩⟩
theorem Mov.ofSub (s : ∀ a, N a → H a ≠ none → N' a) : Mov K H H N N' := ⟨fun _ _ => id, fun _ _ => id, fun _ _ => id, fun a _ n h => ⟨s a n (by rw [h]; simp), h⟩, fun a _ n h => ⟨s a n (by rw [h]; simp), h⟩⟩
theorem Mov.trans (a : Mov K H H' N N') (b : Mov K H' H'' N' N'') : Mov K H H'' N N'' :=
  ⟨fun c xs h => b.t c xs (a.t c xs h), fun c xs h => b.p c xs (a.p c xs h), fun c xs h => b.f c xs (a.f c xs h), fun c xs n h => b.l c xs (a.l c xs n h).1 (a.l c xs n h).2, fun c xs n h => b.d c xs (a.d c xs n h).1 (a.d c xs n h).2⟩
end
/-- what is walked: items, told by It; it hangs on the places A -/
structure ItS (K : PySem.W.Frag) (J : Hp → Prop) (N0 : Addr → Prop) (own : Addr → Prop) (k : Kd) (items : List D) (Jt : It) (H1 : Hp) (A : Addr → Prop) (Src : Hp → Prop) (P : Hp → (Addr → Prop) → Prop) : Prop where
  src : Src H1
  dom : ∀ a, A a → H1 a ≠ none ∧ (k.isOwn = false → ¬ own a)
  stb : ∀ H H', (∀ a o, A a → H a = some o → (∀ ps, o ≠ .tbl ps) → H' a = some o) → Src H → Src H'
  p0 : P H1 N0
  pm : ∀ H H' N N', Mov K H H' N N' → P H N → P H' N'
  go : ∀ i H, Src H → i < items.length → Jt.go i H
  stop : ∀ i H, Src H → items.length ≤ i → Jt.stop i H
  yld : ∀ i H x H' N d, Src H → P H N → Jt.yld i H x H' → items[i]? = some d → Ext J H H' ∧ Rep K H' N d x
section
variable (X : Cx) (J : Hp → Prop) (exv : Str → Option Addr) (W : WX) (H0 : Hp) (B : Addr → Prop)
def JI (tg iter : Expr) (ρ : Env) (r : M (Kd × List D)) : Prop := ∀ σ H R, Fr J X.K H0 B ρ σ H → r ≠ .stuck → Wish J exv W σ H r →
  (∀ k items, r = .ok (k, items) → ∀ H1, Ext J H H1 → Fr J X.K H0 B ρ σ H1 → ∀ Jt A Src P, ItS X.K J (NN H0 B ρ σ k.new) (OwnS ρ σ) k items Jt H1 A Src P → R Jt H1) → tIt X tg iter σ H R
end
section
variable {X : Cx} {J : Hp → Prop} {exv : Str → Option Addr} {k : Nat} {W : WX} {N : List Str} {sc : Scope} {nm : List Str} {S : Sig} {H0 H H1 H2 : Hp} {B : Addr → Prop} {ρ ρ' : Env} {σ σ' : St} {pos p2 : Pos} {e a b c tg : Expr} {ra rb rc : M R} {es : List Expr} {rs : M (List R)} {n : Bool} {d : D} {v : V}
/-! ### what may be walked -/
theorem its_seq {K : PySem.W.Frag} {N0 own : Addr → Prop} {kd : Kd} {items : List D} {a : Addr} {xs : List V} {A : Addr → Prop} {Src : Hp → Prop} {Jt : It} (hs : Src H1) (hd : ∀ a, A a → H1 a ≠ none ∧ (kd.isOwn = false → ¬ own a))
    (stb : ∀ H H', (∀ a o, A a → H a = some o → (∀ ps, o ≠ .tbl ps) → H' a = some o) → Src H → Src H') (r : Reps K H1 N0 items xs)
    (hq : ∀ H, Src H → (∀ i, i < xs.length → Jt.go i H) ∧ (∀ i, xs.length ≤ i → Jt.stop i H) ∧ ∀ i x H', Jt.yld i H x H' → H' = H ∧ ∀ v, xs[i]? = some v → v = x) : ItS K J N0 own kd items Jt H1 A Src (fun H N => Reps K H N items xs) where
  src := hs
  dom := hd
  stb := stb
  p0 := r
  pm := fun _ _ _ _ m r => r.move m
  go := fun i H s hi => (hq H s).1 i (by rw [← r.length]; exact hi)
  stop := fun i H s hi => (hq H s).2.1 i (by rw [← r.length]; exact hi)
  yld := fun i H x H' N d s r y hi => by
    obtain ⟨e, f⟩ := (hq H s).2.2 i x H' y
    obtain ⟨v, hv, rv⟩ := r.get hi
    subst e
    rw [← f v hv]
    exact ⟨.refl _, rv⟩
theorem itl_of {K : PySem.W.Frag} {a : Addr} {xs : List V} (h : SqL K H a xs) : (∀ i, i < xs.length → (Itl K a).go i H) ∧ (∀ i, xs.length ≤ i → (Itl K a).stop i H) ∧ ∀ i x H', (Itl K a).yld i H x H' → H' = H ∧ ∀ v, xs[i]? = some v → v = x :=
  ⟨fun i hi => ⟨xs, xs[i], h, by simp [hi]⟩, fun i hi => ⟨xs, h, hi⟩, fun i x H' y => ⟨y.1, fun v hv => Option.some.inj (hv.symm.trans (y.2 xs h))⟩⟩
theorem itt_of {K : PySem.W.Frag} {a : Addr} {xs : List V} (h : SqT K H a xs) : (∀ i, i < xs.length → (Itt K a).go i H) ∧ (∀ i, xs.length ≤ i → (Itt K a).stop i H) ∧ ∀ i x H', (Itt K a).yld i H x H' → H' = H ∧ ∀ v, xs[i]? = some v → v = x :=
  ⟨fun i hi => ⟨xs, xs[i], h, by simp [hi]⟩, fun i hi => ⟨xs, h, hi⟩, fun i x H' y => ⟨y.1, fun v hv => Option.some.inj (hv.symm.trans (y.2 xs h))⟩⟩
def isTup : D → Bool
  | .tup _ => true
  | _ => false
abbrev sqF (ra : M R) : M (Kd × List D) := ra.bind fun x => match itemsOf x.2 with
    | some xs => .ok (x.1, xs)
    | none => .stuck
theorem ji_sq (ha : JE X J exv W H0 B a ρ ra) : JI X J exv W H0 B tg a ρ (sqF ra) := by
  intro σ H R fr ns w kk
  by_cases ht : ∃ x ds, ra = .ok (x, .tup ds)
  · obtain ⟨x, ds, e0⟩ := ht
    refine tIt_of (pi_tup pe_self) ?_
    refine ha.use fr ns w fun k1 d1 e1 v1 H1 x1 f1 q1 ns1 w1 => ?_
    rw [e0] at e1
    cases e1
    obtain ⟨b, xs, rfl, hvp, r⟩ := r1_tup (q1.rep1 f1)
    have hv := hvp.sq
    refine ⟨b, rfl, ⟨xs, hv⟩, ?_⟩
    have e2 : sqF ra = .ok (x, ds) := by rw [e0]; rfl
    rcases hv with (hv | ⟨o, hv⟩) | hv
    · exact kk _ _ e2 H1 x1 f1 (Itt X.K b) (fun y => y = b) (fun H => H b = some (.tup xs)) _ (its_seq (a := b) hv (fun y z => by
        subst z
        refine ⟨by rw [hv]; simp, fun _ o => ?_⟩
        obtain ⟨q, h1, h2⟩ := f1.own_chg o
        rw [hv] at h1; cases h1; exact h2) (fun H H' s z => s b _ rfl z fun _ q => nomatch q) r fun H z => itt_of (.inl (.inl z)))
    · exact kk _ _ e2 H1 x1 f1 (Itt X.K b) (fun y => y = b) (fun H => H b = some (.frz o (.tup xs))) _ (its_seq (a := b) hv (fun y z => by
        subst z
        refine ⟨by rw [hv]; simp, fun _ o => ?_⟩
        obtain ⟨q, h1, h2⟩ := f1.own_chg o
        rw [hv] at h1; cases h1; exact h2) (fun H H' s z => s b _ rfl z fun _ q => nomatch q) r fun H z => itt_of (.inl (.inr ⟨o, z⟩)))
    · exact kk _ _ e2 H1 x1 f1 (Itt X.K b) (fun _ => False) (fun H => True) _ (its_seq (a := b) trivial (fun y z => z.elim) (fun _ _ _ z => z) r fun H z => itt_of (.inr hv))
  · refine tIt_of (pi_list pe_self) ?_
    refine ha.use fr ns w fun k1 d1 e1 v1 H1 x1 f1 q1 ns1 w1 => ?_
    cases d1 with
    | tup ds => exact absurd ⟨k1, ds, e1⟩ ht
    | lst ds =>
      have e2 : sqF ra = .ok (k1, ds) := by rw [e1]; rfl
      obtain ⟨b, xs, rfl, hv, r⟩ := r1_lst (q1.rep1 f1)
      refine ⟨b, rfl, ⟨xs, .of hv⟩, ?_⟩
      refine kk _ _ e2 H1 x1 f1 (Itl X.K b) (fun y => y = b) (fun H => H b = some (.lst xs)) _ (its_seq (a := b) hv (fun y z => ?_) (fun H H' s z => s b _ rfl z fun _ q => nomatch q) r fun H z => itl_of (.of z))
      subst z
      refine ⟨by rw [hv]; simp, fun ho => ?_⟩
      cases q1.rep fr x1 ho with
      | lst n _ _ => exact n.1
    | frz ds =>
      have e2 : sqF ra = .ok (k1, ds) := by rw [e1]; rfl
      obtain ⟨b, xs, rfl, hv, r⟩ := r1_frz (q1.rep1 f1)
      refine ⟨b, rfl, ⟨xs, hv.sq⟩, ?_⟩
      rcases hv with ⟨o, hv⟩ | hv
      · exact kk _ _ e2 H1 x1 f1 (Itl X.K b) (fun y => y = b) (fun H => H b = some (.frz o (.lst xs))) _ (its_seq (a := b) hv (fun y z => by
          subst z
          refine ⟨by rw [hv]; simp, fun _ o => ?_⟩
          obtain ⟨q, h1, h2⟩ := f1.own_chg o
          rw [hv] at h1; cases h1; exact h2) (fun H H' s z => s b _ rfl z fun _ q => nomatch q) r fun H z => itl_of (.inl (.inr ⟨o, z⟩)))
      · exact kk _ _ e2 H1 x1 f1 (Itl X.K b) (fun _ => False) (fun H => True) _ (its_seq (a := b) trivial (fun y z => z.elim) (fun _ _ _ z => z) r fun H z => itl_of (.inr hv))
    | _ => exact absurd rfl ns1
theorem rngD_len (i j : Int) : (rngD i j).length = (j - i).toNat := by unfold rngD; rw [List.length_map, List.length_range]
theorem rngD_get {i j : Int} {m : Nat} {d : D} (h : (rngD i j)[m]? = some d) : d = .int (i + (m : Nat)) := by
  unfold rngD at h
  rw [List.getElem?_map] at h
  cases e : (List.range (j - i).toNat)[m]? with
  | none => rw [e] at h; cases h
  | some y =>
    rw [e] at h
    have := List.getElem?_eq_some_iff.mp e
    obtain ⟨_, h2⟩ := this
    rw [List.getElem_range] at h2
    subst h2
    exact (Option.some.inj h).symm
theorem its_rng {N0 own : Addr → Prop} {K : PySem.W.Frag} (i j : Int) : ItS K J N0 own (.pl true) (rngD i j) (Itr i (j - i).toNat) H1 (fun _ => False) (fun _ => True) (fun _ _ => True) where
  src := trivial
  dom := fun _ z => z.elim
  stb := fun _ _ _ z => z
  p0 := trivial
  pm := fun _ _ _ _ _ z => z
  go := fun m H _ hi => by rw [rngD_len] at hi; exact hi
  stop := fun m H _ hi => by rw [rngD_len] at hi; exact hi
  yld := fun m H x H' N d _ _ y hi => by
    obtain ⟨e1, e2⟩ := y
    subst e1 e2
    rw [rngD_get hi]
    exact ⟨.refl _, .int _⟩
theorem ji_r1 (C : Cok X J exv k W N sc nm S) (hg : glB sc "range" = true) (oa : okE a = true) (ha : JE X J exv W H0 B a ρ ra) : JI X J exv W H0 B tg (.Call (.Name "range" p2) [a] [] pos) ρ (ra.bind fun x => match x.2 with
    | .int j => guard' (-(2 ^ 62) ≤ j ∧ j < 2 ^ 62) (.ok (.pl true, rngD 0 j))
    | _ => .stuck) := by
  intro σ H R fr ns w kk
  refine tIt_of (pi_range1 (gl_of C hg).1 (C.blt _ (by decide +kernel)) (pa_cons pe_self pa_nil (star_ok oa)) (by rw [star_ok oa]; rfl)) ?_
  refine ha.use fr ns w fun k1 d1 e1 v1 H1 x1 f1 q1 ns1 w1 => ?_
  subst e1
  cases d1 with
  | int j =>
    obtain rfl := r1_int (q1.rep1 f1)
    obtain ⟨⟨g1, g2⟩, ge⟩ := guard_ns ns1
    have q := its_rng (J := J) (H1 := H1) (N0 := NN H0 B ρ σ true) (own := OwnS ρ σ) (K := X.K) 0 j
    rw [Int.sub_zero] at q
    exact ⟨j, rfl, g1, g2, kk _ _ ge H1 x1 f1 _ _ _ _ q⟩
  | _ => exact absurd rfl ns1
theorem ji_r2 (C : Cok X J exv k W N sc nm S) (hg : glB sc "range" = true) (oa : okE a = true) (ob : okE b = true) (ha : JE X J exv W H0 B a ρ ra) (hb : JE X J exv W H0 B b ρ rb) : JI X J exv W H0 B tg (.Call (.Name "range" p2) [a, b] [] pos) ρ (ra.bind fun x => rb.bind fun y => match x.2, y.2 with
    | .int i, .int j => guard' (-(2 ^ 62) ≤ i ∧ i < 2 ^ 62 ∧ -(2 ^ 62) ≤ j ∧ j < 2 ^ 62) (.ok (.pl true, rngD i j))
    | _, _ => .stuck) := by
  intro σ H R fr ns w kk
  refine tIt_of (pi_range2 (gl_of C hg).1 (C.blt _ (by decide +kernel)) (pa_cons pe_self (pa_cons pe_self pa_nil (star_ok ob)) (star_ok oa)) (by rw [star_ok oa, star_ok ob]; rfl) (by rw [star_ok ob]; rfl)) ?_
  refine ha.use fr ns w fun k1 d1 e1 v1 H1 x1 f1 q1 ns1 w1 => ?_
  refine hb.use f1 ns1 w1 fun k2 d2 e2 v2 H2 x2 f2 q2 ns2 w2 => ?_
  subst e1 e2
  cases d1 with
  | int i =>
    cases d2 with
    | int j =>
      obtain rfl := r1_int (q1.rep1 f1)
      obtain rfl := r1_int (q2.rep1 f2)
      obtain ⟨⟨g1, g2, g3, g4⟩, ge⟩ := guard_ns ns2
      exact ⟨i, j, rfl, ⟨g1, g2, g3, g4⟩, kk _ _ ge H2 (x1.trans x2) f2 _ _ _ _ (its_rng i j)⟩
    | _ => exact absurd rfl ns2
  | _ => exact absurd rfl ns2
end
end PyV
namespace PyV
open PySem L2
/-! ### enumerate, zip -/
theorem enum_get {xs : List D} {i : Nat} {d : D} (h : (enumD xs)[i]? = some d) : ∃ x, xs[i]? = some x ∧ d = .prs [.int (i : Nat), x] := by
  unfold enumD at h
  rw [List.getElem?_map, List.getElem?_zipIdx] at h
  cases e : xs[i]? with
  | none => rw [e] at h; cases h
  | some x =>
    rw [e] at h
    refine ⟨x, rfl, ?_⟩
    have := (Option.some.inj h).symm
    simpa using this
theorem enum_len (xs : List D) : (enumD xs).length = xs.length := by unfold enumD; rw [List.length_map, List.length_zipIdx]
theorem zip_get {xs ys : List D} {i : Nat} {d : D} (h : (zipD xs ys)[i]? = some d) : ∃ x y, xs[i]? = some x ∧ ys[i]? = some y ∧ d = .prs [x, y] := by
  unfold zipD at h
  rw [List.getElem?_map] at h
  cases e : (xs.zip ys)[i]? with
  | none => rw [e] at h; cases h
  | some p =>
    rw [e] at h
    have q := List.getElem?_zip_eq_some.mp e
    exact ⟨p.1, p.2, q.1, q.2, (Option.some.inj h).symm⟩
theorem zip_len (xs ys : List D) : (zipD xs ys).length = min xs.length ys.length := by unfold zipD; rw [List.length_map, List.length_zip]
/-- what a walked thing hangs on -/
structure Hold (own : Addr → Prop) (kd : Kd) (H1 : Hp) (A : Addr → Prop) (Src : Hp → Prop) (sq : Hp → Prop) : Prop where
  src : Src H1
  dom : ∀ a, A a → H1 a ≠ none ∧ (kd.isOwn = false → ¬ own a)
  stb : ∀ H H', (∀ a o, A a → H a = some o → (∀ ps, o ≠ .tbl ps) → H' a = some o) → Src H → Src H'
  sq : ∀ H, Src H → sq H
section
variable {X : Cx} {J : Hp → Prop} {exv : Str → Option Addr} {k : Nat} {W : WX} {N : List Str} {sc : Scope} {nm : List Str} {S : Sig} {H0 H H1 H2 : Hp} {B : Addr → Prop} {ρ ρ' : Env} {σ σ' : St} {pos p2 : Pos} {e a b c tg : Expr} {ra rb rc : M R} {es : List Expr} {rs : M (List R)} {n : Bool} {d : D} {v : V}
theorem Hold.go {own : Addr → Prop} {kd : Kd} {A : Addr → Prop} {Src sq : Hp → Prop} (h : Hold own kd H1 A Src sq) (x : Ext J H1 H2) : Hold own kd H2 A Src sq :=
  ⟨h.stb _ _ (fun a o _ e n => x.keep a o e n) h.src, fun a ha => ⟨fun z => (h.dom a ha).1 (x.free a z), (h.dom a ha).2⟩, h.stb, h.sq⟩
theorem not_own (f : Fr J X.K H0 B ρ σ H) {y : Addr} {o : HO} (h : H y = some o) (n : ¬ Chg o) : ¬ OwnS ρ σ y := fun z => by
  obtain ⟨q, h1, h2⟩ := f.own_chg z
  rw [h] at h1; cases h1
  exact n h2
theorem hold_list {k1 : Kd} {d1 : D} {ds : List D} (fr : Fr J X.K H0 B ρ σ H) (x1 : Ext J H H1) (f1 : Fr J X.K H0 B ρ σ H1) (q1 : ResOk X.K H0 B ρ σ H H1 k1 d1 v) (hd : d1 = .lst ds ∨ d1 = .frz ds) :
    ∃ (b : Addr) (xs : List V) (A : Addr → Prop) (Src : Hp → Prop), v = .ref b ∧ Reps X.K H1 (NN H0 B ρ σ k1.new) ds xs ∧ Hold (OwnS ρ σ) k1 H1 A Src (fun H => SqL X.K H b xs) := by
  rcases hd with rfl | rfl
  · obtain ⟨b, xs, rfl, hv, r⟩ := r1_lst (q1.rep1 f1)
    refine ⟨b, xs, fun y => y = b, fun H => H b = some (.lst xs), rfl, r, hv, fun y z => ?_, fun H H' s z => s b _ rfl z (fun _ q => nomatch q), fun H z => .of z⟩
    subst z
    refine ⟨by rw [hv]; simp, fun ho => ?_⟩
    cases q1.rep fr x1 ho with
    | lst n _ _ => exact n.1
  · obtain ⟨b, xs, rfl, hv, r⟩ := r1_frz (q1.rep1 f1)
    rcases hv with ⟨o, hv⟩ | hv
    · exact ⟨b, xs, fun y => y = b, fun H => H b = some (.frz o (.lst xs)), rfl, r, hv, fun y z => by
        subst z
        exact ⟨by rw [hv]; simp, fun _ => not_own f1 hv id⟩, fun H H' s z => s b _ rfl z (fun _ q => nomatch q), fun H z => .inl (.inr ⟨o, z⟩)⟩
    · exact ⟨b, xs, fun _ => False, fun _ => True, rfl, r, trivial, fun y z => z.elim, fun _ _ _ z => z, fun H z => .inr hv⟩
theorem hold_tup {k1 : Kd} {ds : List D} (fr : Fr J X.K H0 B ρ σ H) (x1 : Ext J H H1) (f1 : Fr J X.K H0 B ρ σ H1) (q1 : ResOk X.K H0 B ρ σ H H1 k1 (.tup ds) v) :
    ∃ (b : Addr) (xs : List V) (A : Addr → Prop) (Src : Hp → Prop), v = .ref b ∧ Reps X.K H1 (NN H0 B ρ σ k1.new) ds xs ∧ Hold (OwnS ρ σ) k1 H1 A Src (fun H => SqT X.K H b xs) := by
  obtain ⟨b, xs, rfl, hv, r⟩ := r1_tup (q1.rep1 f1)
  rcases hv.sq with (hv | ⟨o, hv⟩) | hv
  · exact ⟨b, xs, fun y => y = b, fun H => H b = some (.tup xs), rfl, r, hv, fun y z => by
      subst z
      exact ⟨by rw [hv]; simp, fun _ => not_own f1 hv id⟩, fun H H' s z => s b _ rfl z (fun _ q => nomatch q), fun H z => .inl (.inl z)⟩
  · exact ⟨b, xs, fun y => y = b, fun H => H b = some (.frz o (.tup xs)), rfl, r, hv, fun y z => by
      subst z
      exact ⟨by rw [hv]; simp, fun _ => not_own f1 hv id⟩, fun H H' s z => s b _ rfl z (fun _ q => nomatch q), fun H z => .inl (.inr ⟨o, z⟩)⟩
  · exact ⟨b, xs, fun _ => False, fun _ => True, rfl, r, trivial, fun y z => z.elim, fun _ _ _ z => z, fun H z => .inr hv⟩
theorem its_enum (jk : JOk J) {K : PySem.W.Frag} {N0 own : Addr → Prop} {kd : Kd} {ds : List D} {b : Addr} {xs : List V} {A : Addr → Prop} {Src : Hp → Prop} (h : Hold own kd H1 A Src (fun H => SqL K H b xs)) (r : Reps K H1 N0 ds xs) :
    ItS K J N0 own kd (enumD ds) (Ite K b) H1 A Src (fun H N => Reps K H N ds xs) where
  src := h.src
  dom := h.dom
  stb := h.stb
  p0 := r
  pm := fun _ _ _ _ m r => r.move m
  go := fun i H s hi => by
    rw [enum_len, r.length] at hi
    exact ⟨xs, xs[i], h.sq H s, by simp [hi]⟩
  stop := fun i H s hi => by
    rw [enum_len, r.length] at hi
    exact ⟨xs, h.sq H s, hi⟩
  yld := fun i H x H' N d s r y hi => by
    obtain ⟨T, x', rfl, hT, rfl, hx⟩ := y
    obtain ⟨d', h1, rfl⟩ := enum_get hi
    obtain ⟨v, hv, rv⟩ := r.get h1
    have e := hx xs (h.sq H s)
    rw [hv] at e
    cases e
    exact ⟨Ext.new jk hT, .prs (.of upd_same) (.cons (.int _) (.cons (rv.ext (Ext.new jk hT)) .nil))⟩
theorem its_zip (jk : JOk J) {K : PySem.W.Frag} {N0 own : Addr → Prop} {k1 k2 kd : Kd} (hk : kd.isOwn = false → k1.isOwn = false ∧ k2.isOwn = false) {ds es : List D} {a b : Addr} {xs ys : List V} {A A2 : Addr → Prop} {Src Src2 : Hp → Prop} {sq sq2 : Hp → Prop} (h : Hold own k1 H1 A Src sq) (h2 : Hold own k2 H1 A2 Src2 sq2) (r : Reps K H1 N0 ds xs) (r2 : Reps K H1 N0 es ys) {It' : It}
    (go : ∀ i H, sq H → sq2 H → i < xs.length → i < ys.length → It'.go i H) (stop : ∀ i H, sq H → sq2 H → (xs.length ≤ i ∨ ys.length ≤ i) → It'.stop i H)
    (yld : ∀ i H v H', sq H → sq2 H → It'.yld i H v H' → ∃ T x y, v = .ref T ∧ H T = none ∧ H' = upd H T (.tup [x, y]) ∧ xs[i]? = some x ∧ ys[i]? = some y) :
    ItS K J N0 own kd (zipD ds es) It' H1 (fun y => A y ∨ A2 y) (fun H => Src H ∧ Src2 H) (fun H N => Reps K H N ds xs ∧ Reps K H N es ys) where
  src := ⟨h.src, h2.src⟩
  dom := fun y z => z.elim (fun z => ⟨(h.dom y z).1, fun q => (h.dom y z).2 (hk q).1⟩) fun z => ⟨(h2.dom y z).1, fun q => (h2.dom y z).2 (hk q).2⟩
  stb := fun H H' s z => ⟨h.stb H H' (fun c o hc => s c o (.inl hc)) z.1, h2.stb H H' (fun c o hc => s c o (.inr hc)) z.2⟩
  p0 := ⟨r, r2⟩
  pm := fun _ _ _ _ m r => ⟨r.1.move m, r.2.move m⟩
  go := fun i H s hi => by
    rw [zip_len, r.length, r2.length] at hi
    exact go i H (h.sq H s.1) (h2.sq H s.2) (by omega) (by omega)
  stop := fun i H s hi => by
    rw [zip_len, r.length, r2.length] at hi
    exact stop i H (h.sq H s.1) (h2.sq H s.2) (by omega)
  yld := fun i H x H' N d s r y hi => by
    obtain ⟨T, x', y', rfl, hT, rfl, hx, hy⟩ := yld i H x H' (h.sq H s.1) (h2.sq H s.2) y
    obtain ⟨d1, d2, g1, g2, rfl⟩ := zip_get hi
    obtain ⟨v, hv, rv⟩ := r.1.get g1
    obtain ⟨w, hw, rw'⟩ := r.2.get g2
    rw [hv] at hx
    rw [hw] at hy
    cases hx
    cases hy
    exact ⟨Ext.new jk hT, .prs (.of upd_same) (.cons (rv.ext (Ext.new jk hT)) (.cons (rw'.ext (Ext.new jk hT)) .nil))⟩
theorem ji_en (C : Cok X J exv k W N sc nm S) {elts : List Expr} {kk : Nat} {tpos : Pos} (hg : glB sc "enumerate" = true) (oa : okE a = true) (ha : JE X J exv W H0 B a ρ ra) : JI X J exv W H0 B (.Tuple elts kk tpos) (.Call (.Name "enumerate" p2) [a] [] pos) ρ (ra.bind enumF) := by
  intro σ H R fr ns w kk
  refine tIt_of (pi_enum (gl_of C hg).1 (C.blt _ (by decide +kernel)) (pa_cons pe_self pa_nil (star_ok oa)) (by rw [star_ok oa]; rfl)) ?_
  refine ha.use fr ns w fun k1 d1 e1 v1 H1 x1 f1 q1 ns1 w1 => ?_
  subst e1
  obtain ⟨ds, hd, e2⟩ : ∃ ds, (d1 = .lst ds ∨ d1 = .frz ds) ∧ enumF (k1, d1) = .ok (k1, enumD ds) := by
    cases d1 with
    | lst ds => exact ⟨ds, .inl rfl, rfl⟩
    | frz ds => exact ⟨ds, .inr rfl, rfl⟩
    | _ => exact absurd rfl ns1
  obtain ⟨b, xs, A, Src, rfl, r, h⟩ := hold_list fr x1 f1 q1 hd
  exact ⟨b, xs, rfl, h.sq _ h.src, kk _ _ e2 H1 x1 f1 _ _ _ _ (its_enum C.jk h r)⟩
theorem ji_zp (C : Cok X J exv k W N sc nm S) {elts : List Expr} {kk : Nat} {tpos : Pos} (hg : glB sc "zip" = true) (oa : okE a = true) (ob : okE b = true) (ha : JE X J exv W H0 B a ρ ra) (hb : JE X J exv W H0 B b ρ rb) : JI X J exv W H0 B (.Tuple elts kk tpos) (.Call (.Name "zip" p2) [a, b] [] pos) ρ (ra.bind fun x => rb.bind fun y => zipF x y) := by
  intro σ H R fr ns w kk
  refine tIt_of (RZ.pi_zipA (gl_of C hg).1 (C.blt _ (by decide +kernel)) (pa_cons pe_self (pa_cons pe_self pa_nil (star_ok ob)) (star_ok oa)) (by rw [star_ok oa]) (by rw [star_ok ob]; rfl)) ?_
  refine ha.use fr ns w fun k1 d1 e1 v1 H1 x1 f1 q1 ns1 w1 => ?_
  refine hb.use f1 ns1 w1 fun k2 d2 e2 v2 H2 x2 f2 q2 ns2 w2 => ?_
  subst e1 e2
  have sub1 : ∀ y, NN H0 B ρ σ k1.new y → NN H0 B ρ σ (k1.new && k2.new) y := fun y n => n.le fun z => (Bool.and_eq_true_iff.mp z).1
  have sub2 : ∀ y, NN H0 B ρ σ k2.new y → NN H0 B ρ σ (k1.new && k2.new) y := fun y n => n.le fun z => (Bool.and_eq_true_iff.mp z).2
  cases d1 with
  | lst ds =>
    cases d2 with
    | lst es =>
      obtain ⟨⟨g1, g2⟩, ge⟩ := guard_ns ns2
      obtain ⟨b1, xs, A, Src, rfl, r, h⟩ := hold_list fr x1 f1 q1 (.inl rfl)
      obtain ⟨b2, ys, A2, Src2, rfl, r2, h2⟩ := hold_list f1 x2 f2 q2 (.inl rfl)
      have h := h.go x2
      refine ⟨b1, b2, xs, ys, rfl, .inl ⟨h.sq _ h.src, h2.sq _ h2.src, ?_⟩⟩
      refine kk _ _ ge H2 (x1.trans x2) f2 _ _ _ _ (its_zip (a := b1) (b := b2) C.jk (fun _ => ⟨g1, g2⟩) h h2 ((r.ext x2).sub fun y n _ => sub1 y n) (r2.sub fun y n _ => sub2 y n) ?_ ?_ ?_)
      · exact fun i H s1 s2 hi hj => ⟨xs, ys, xs[i], ys[i], s1, s2, by simp [hi], by simp [hj]⟩
      · exact fun i H s1 s2 hi => ⟨xs, ys, s1, s2, hi⟩
      · rintro i H v H' s1 s2 ⟨T, x, y, e1, e2, e3, e4, e5⟩
        exact ⟨T, x, y, e1, e2, e3, e4 xs s1, e5 ys s2⟩
    | _ => exact absurd rfl ns2
  | tup ds =>
    cases d2 with
    | tup es =>
      obtain ⟨⟨g1, g2⟩, ge⟩ := guard_ns ns2
      obtain ⟨b1, xs, A, Src, rfl, r, h⟩ := hold_tup fr x1 f1 q1
      obtain ⟨b2, ys, A2, Src2, rfl, r2, h2⟩ := hold_tup f1 x2 f2 q2
      have h := h.go x2
      refine ⟨b1, b2, xs, ys, rfl, .inr ⟨h.sq _ h.src, h2.sq _ h2.src, ?_⟩⟩
      refine kk _ _ ge H2 (x1.trans x2) f2 _ _ _ _ (its_zip (a := b1) (b := b2) C.jk (fun _ => ⟨g1, g2⟩) h h2 ((r.ext x2).sub fun y n _ => sub1 y n) (r2.sub fun y n _ => sub2 y n) ?_ ?_ ?_)
      · exact fun i H s1 s2 hi hj => ⟨xs, ys, xs[i], ys[i], s1, s2, by simp [hi], by simp [hj]⟩
      · exact fun i H s1 s2 hi => ⟨xs, ys, s1, s2, hi⟩
      · rintro i H v H' s1 s2 ⟨T, x, y, e1, e2, e3, e4, e5⟩
        exact ⟨T, x, y, e1, e2, e3, e4 xs s1, e5 ys s2⟩
    | _ => exact absurd rfl ns2
  | _ => exact absurd rfl ns2
/-! ### dict displays -/
def trsOf (X : Cx) : List (Option Expr) → List Expr → List (TE × TE)
  | some k :: ks, v :: vs => (tE X k, tE X v) :: trsOf X ks vs
  | _, _ => []
def keysOk : List (Option Expr) → List Expr → Bool
  | [], [] => true
  | some _ :: ks, _ :: vs => keysOk ks vs
  | _, _ => false
theorem keys_facts : ∀ {ks : List (Option Expr)} {vs : List Expr}, keysOk ks vs = true → PPs X pos ks vs (trsOf X ks vs) ∧ ks.all (·.isSome) = true ∧ ks.length = vs.length
  | [], [], _ => ⟨pps_nil, rfl, rfl⟩
  | some k :: ks, v :: vs, h => by
    obtain ⟨h1, h2, h3⟩ := keys_facts (ks := ks) (vs := vs) h
    exact ⟨pps_cons pe_self pe_self h1, by simp [h2], by simp [h3]⟩
  | [], _ :: _, h => by cases h
  | none :: _, [], h => by cases h
  | none :: _, _ :: _, h => by cases h
  | some _ :: _, [], h => by cases h
def flatP : List (V × V) → List V
  | [] => []
  | p :: ps => p.1 :: p.2 :: flatP ps
/-- the pairs of a display -/
def JD (X : Cx) (J : Hp → Prop) (exv : Str → Option Addr) (W : WX) (H0 : Hp) (B : Addr → Prop) (ks : List (Option Expr)) (vs : List Expr) (ρ : PyV.Env) (r : M (List R)) : Prop := ∀ σ H Q, Fr J X.K H0 B ρ σ H → r ≠ .stuck → Wish J exv W σ H r →
  (∀ rs, r = .ok rs → ∀ ps H', Ext J H H' → ResAll H0 B X.K ρ σ H H' rs (flatP ps) → Q ps H') → tPairs (trsOf X ks vs) σ H Q
theorem jd_nil : JD X J exv W H0 B [] [] ρ (.ok []) := fun σ H Q fr ns w kk => kk [] rfl [] H (.refl _) rfl
theorem jd_cons {ks : List (Option Expr)} {vs : List Expr} (ha : JE X J exv W H0 B a ρ ra) (hb : JE X J exv W H0 B b ρ rb) (h : JD X J exv W H0 B ks vs ρ rs) :
    JD X J exv W H0 B (some a :: ks) (b :: vs) ρ (ra.bind fun r => (rb.bind fun r => rs.bind fun rs => .ok (r :: rs)).bind fun rs => .ok (r :: rs)) := by
  intro σ H Q fr ns w kk
  refine ha.use fr ns w fun k1 d1 e1 v1 H1 x1 f1 q1 ns1 w1 => ?_
  have e0 : ∀ (r : R), ((rb.bind fun r => rs.bind fun rs => (.ok (r :: rs) : M (List R))).bind fun rs => (.ok (r :: rs) : M (List R))) = rb.bind fun r2 => rs.bind fun rs => .ok (r :: r2 :: rs) := fun r => by
    cases rb with
    | ok z => cases rs <;> rfl
    | _ => rfl
  rw [e0] at ns1 w1
  subst e1
  refine hb.use f1 ns1 w1 fun k2 d2 e2 v2 H2 x2 f2 q2 ns2 w2 => ?_
  subst e2
  refine h σ H2 _ f2 (bind_ns ns2) w2.left fun rs' e3 ps H3 x3 q3 => ?_
  subst e3
  refine kk _ rfl ((v1, v2) :: ps) H3 ((x1.trans x2).trans x3) ?_
  exact ⟨v1, _, rfl, ((q1.ext x2).ext x3), v2, _, rfl, (q2.back x1).ext x3, ResAll.back (x1.trans x2) q3⟩
theorem pairs_rep {H : Hp} {P : Addr → Prop} : ∀ {ds : List D} {kvs : List (Key × D)} {ps : List (V × V)}, pairsD ds = some kvs → Reps X.K H P ds (flatP ps) → ∃ vs : List (Key × V), ps = vs.map (fun kv => (kV kv.1, kv.2)) ∧ RepK X.K H P kvs vs
  | [], kvs, ps, h, r => by
    cases h
    cases ps with
    | nil => exact ⟨[], rfl, .nil⟩
    | cons => cases r
  | [_], _, _, h, _ => by cases h
  | k :: v :: ds, kvs, ps, h, r => by
    cases ps with
    | nil => cases r
    | cons p ps =>
      cases r with
      | cons r1 r =>
        cases r with
        | cons r2 r =>
          rw [pairsD] at h
          split at h
          · rename_i key ps' hk hp
            cases h
            obtain ⟨vs, e, q⟩ := pairs_rep hp r
            have e1 : p.1 = kV key := key_rep (X := X) hk r1
            exact ⟨(key, p.2) :: vs, by rw [e, List.map_cons, ← e1], .cons r2 q⟩
          · cases h
theorem je_dct (C : Cok X J exv k W N sc nm S) {ks : List (Option Expr)} {vs : List Expr} (hz : ks = [] → rs = .ok []) (hk : keysOk ks vs = true) (hl : ks.length ≤ 15) (h : ∀ B, JD X J exv W H0 B ks vs ρ rs) : JE X J exv W H0 B (.Dict ks vs pos) ρ (rs.bind mkDct) := by
  intro σ H Q fr ns w kk
  obtain ⟨h1, h2, h3⟩ := keys_facts (X := X) (pos := pos) hk
  by_cases h0 : ks = []
  · subst h0
    cases vs with
    | cons => cases h3
    | nil =>
      refine tE_of pe_dnewK fun p hp => ?_
      have e := hz rfl
      subst e
      exact kk (.top true) (.dct []) rfl _ _ (Ext.new C.jk hp) ⟨p, rfl, hp, [], upd_same, .nil⟩
  · refine tE_of (pe_disp h1 h2 h3 h0 hl) fun p hp => ?_
    have x0 : Ext J H (upd H p (.dK [])) := Ext.new C.jk hp
    have f0 := Fr.hide (o := .dK []) C.jk fr hp
    refine h (fun a => B a ∨ a = p) σ _ _ f0 (bind_ns ns) (w.left.go x0) fun rs' e ps H2 x2 q => ?_
    subst e
    have ns : mkDct rs' ≠ .stuck := ns
    unfold mkDct at ns
    split at ns
    · rename_i kvs hkv
      obtain ⟨⟨g1, g2⟩, ge⟩ := guard_ns ns
      have hp2 : H2 p = some (.dK []) := x2.keep _ _ upd_same fun _ q => nomatch q
      obtain ⟨kv, e, r⟩ := pairs_rep hkv (ResAll.reps f0 x2 (allNew rs') q g1 id)
      refine ⟨hp2, kv, e, by rw [← repK_length (X := X) r]; exact g2, ?_⟩
      have sub : ∀ b, NN H0 (fun a => B a ∨ a = p) ρ σ (allNew rs') b → But (NN H0 B ρ σ (allNew rs')) p b := fun b n => ⟨⟨n.1, fun z => n.2.1 (.inl z), n.2.2⟩, fun z => n.2.1 (.inr z)⟩
      have x02 := x0.trans x2
      refine kk (.top (allNew rs')) (.dct (mergeD [] kvs)) (by show mkDct rs' = _; unfold mkDct; rw [hkv]; exact ge) _ _ ⟨fun b u e n => by rw [upd_ne (ne_of_none e hp)]; exact x02.keep b u e n, fun b e => ?_, fun j => C.jk.dK _ _ _ _ hp2 (x02.j j)⟩ ⟨p, rfl, hp, mergeK [] kv, upd_same, ?_⟩
      · by_cases z : b = p
        · rw [z]; exact hp
        · rw [upd_ne z] at e; exact x02.free b e
      · exact (merge_rep (X := X) .nil (r.sub fun b n _ => sub b n)).upd hp2 trivial fun b n => n.2
    · exact absurd rfl ns
end
end PyV
namespace PyV
open PySem L2
/-! ### lists made turn by turn -/
theorem wipe_get : ∀ {ts : List Nat} {σ : St} {j : Nat}, (wipe σ ts)[j]? = if j ∈ ts then (if j < σ.length then some none else none) else σ[j]?
  | [], σ, j => by simp [wipe]
  | t :: ts, σ, j => by
    show ((wipe σ ts).set t none)[j]? = _
    by_cases e : t = j
    · subst e
      rw [if_pos List.mem_cons_self]
      by_cases hl : t < σ.length
      · rw [if_pos hl, List.getElem?_set_self (by rw [wipe_length]; exact hl)]
      · rw [if_neg hl, List.getElem?_eq_none (by rw [List.length_set, wipe_length]; omega)]
    · rw [List.getElem?_set_ne e, wipe_get]
      have : (j ∈ t :: ts) = (j ∈ ts) := by
        simp [List.mem_cons, Ne.symm e]
      simp only [this]
theorem wipe_eq {ts : List Nat} {σ σ2 : St} (hl : σ2.length = (wipe σ ts).length) (ho : ∀ j, j ∉ ts → σ2[j]? = (wipe σ ts)[j]?) : wipe σ2 ts = wipe σ ts := by
  apply List.ext_getElem?
  intro j
  rw [wipe_get, wipe_get]
  rw [wipe_length] at hl
  by_cases h : j ∈ ts
  · rw [if_pos h, if_pos h, hl]
  · rw [if_neg h, if_neg h, ho j h, wipe_get, if_neg h]
theorem wipeE_get : ∀ {ts : List Nat} {ρ : Env} {j : Nat} {x : Tg × D}, (wipeE ρ ts)[j]? = some (some x) → j ∉ ts ∧ ρ[j]? = some (some x)
  | [], ρ, j, x, h => ⟨by simp, h⟩
  | t :: ts, ρ, j, x, h => by
    rcases set_get h with ⟨_, e, _⟩ | ⟨ne, h⟩
    · cases e
    · obtain ⟨h1, h2⟩ := wipeE_get h
      exact ⟨by simp only [List.mem_cons, not_or]; exact ⟨fun z => ne z.symm, h1⟩, h2⟩
theorem wipeE_off : ∀ {ts : List Nat} {ρ : Env} {j : Nat}, j ∉ ts → (wipeE ρ ts)[j]? = ρ[j]?
  | [], ρ, j, h => rfl
  | t :: ts, ρ, j, h => by
    show ((wipeE ρ ts).set t none)[j]? = _
    rw [List.getElem?_set_ne (fun z => h (by rw [z]; exact List.mem_cons_self)), wipeE_off fun z => h (List.mem_cons_of_mem _ z)]
theorem bindTs_off {n : Bool} : ∀ {ts : List Nat} {xs : List D} {ρ : Env} {j : Nat}, j ∉ ts → (bindTs n ts xs ρ)[j]? = ρ[j]?
  | [], _, _, _, _ => rfl
  | _ :: _, [], _, _, _ => rfl
  | t :: ts, x :: xs, ρ, j, h => by
    show (bindTs n ts xs (setE ρ t n x))[j]? = _
    rw [bindTs_off fun z => h (List.mem_cons_of_mem _ z)]
    unfold setE
    rw [List.getElem?_set_ne (fun z => h (by rw [z]; exact List.mem_cons_self))]
theorem bindT_off {n : Bool} {x : D} {ρ ρ' : Env} {ts : List Nat} (h : bindT n x ρ ts = .ok ρ') {j : Nat} (hj : j ∉ ts) : ρ'[j]? = ρ[j]? := by
  unfold bindT at h
  split at h
  · cases h
    unfold setE
    rw [List.getElem?_set_ne (fun z => hj (by rw [z]; exact List.mem_cons_self))]
  · unfold bindTup at h
    split at h
    · obtain ⟨_, h⟩ := guard_ok h
      cases h
      exact bindTs_off hj
    · obtain ⟨_, h⟩ := guard_ok h
      cases h
      exact bindTs_off hj
    · cases h
theorem compM_outs {f : D → M (Option R)} : ∀ {xs : List D} {rs : List R}, compM f xs = .ok rs → ∃ os : List (Option R), os.length = xs.length ∧ (∀ (i : Nat) x o, xs[i]? = some x → os[i]? = some o → f x = .ok o) ∧ rs = os.filterMap id
  | [], rs, h => by
    cases h
    exact ⟨[], rfl, fun i x o h => by simp at h, rfl⟩
  | x :: xs, rs, h => by
    have h : ((f x).bind fun r => (compM f xs).bind fun rs => .ok (consO r rs)) = .ok rs := h
    cases e : f x with
    | stuck => rw [e] at h; cases h
    | ex c => rw [e] at h; cases h
    | ok o =>
      rw [e] at h
      cases e2 : compM f xs with
      | stuck => rw [e2] at h; cases h
      | ex c => rw [e2] at h; cases h
      | ok rs2 =>
        rw [e2] at h
        obtain ⟨os, h1, h2, h3⟩ := compM_outs e2
        refine ⟨o :: os, by rw [List.length_cons, List.length_cons, h1], fun i y p hy hp => ?_, ?_⟩
        · cases i with
          | zero =>
            simp at hy hp
            subst hy hp
            exact e
          | succ i => exact h2 i y p (by simpa using hy) (by simpa using hp)
        · have h : M.ok (consO o rs2) = M.ok rs := h
          cases h
          rw [h3]
          cases o <;> rfl
theorem noEx_ok {α : Type} {m : M α} (h : noEx m ≠ .stuck) : ∃ a, m = .ok a := by
  cases m with
  | ok a => exact ⟨a, rfl⟩
  | _ => exact absurd rfl h
/-- results and the values that stand for them -/
def Elts (K : PySem.W.Frag) (H0 : Hp) (B : Addr → Prop) (ρ : Env) (σ : St) (H : Hp) : List R → List V → Prop
  | [], vs => vs = []
  | r :: rs, vs => ∃ v vr, vs = v :: vr ∧ Rep K H (NN H0 B ρ σ r.1.new) r.2 v ∧ Elts K H0 B ρ σ H rs vr
section
variable {K : PySem.W.Frag} {H0 H H' : Hp} {B B' : Addr → Prop} {ρ ρ' : Env} {σ σ' : St}
theorem Elts.move (m : ∀ n, Mov K H H' (NN H0 B ρ σ n) (NN H0 B' ρ' σ' n)) : ∀ {rs : List R} {vs : List V}, Elts K H0 B ρ σ H rs vs → Elts K H0 B' ρ' σ' H' rs vs
  | [], _, h => h
  | _ :: _, _, ⟨v, vr, h, r, q⟩ => ⟨v, vr, h, r.move (m _), Elts.move m q⟩
theorem Elts.snoc {r : R} {v : V} (hr : Rep K H (NN H0 B ρ σ r.1.new) r.2 v) : ∀ {rs : List R} {vs : List V}, Elts K H0 B ρ σ H rs vs → Elts K H0 B ρ σ H (rs ++ [r]) (vs ++ [v])
  | [], _, h => by cases h; exact ⟨v, [], rfl, hr, rfl⟩
  | _ :: _, _, ⟨w, vr, h, r, q⟩ => by subst h; exact ⟨w, _, rfl, r, Elts.snoc hr q⟩
theorem Elts.reps {P : Addr → Prop} {m : Bool} (hp : ∀ n a, (m = true → n = true) → NN H0 B ρ σ n a → H a ≠ none → P a) : ∀ {rs : List R} {vs : List V}, (m = true → allNew rs = true) → Elts K H0 B ρ σ H rs vs → Reps K H P (rs.map (·.2)) vs
  | [], _, _, h => by cases h; exact .nil
  | r :: rs, _, ha, ⟨w, vr, h, rr, q⟩ => by
    subst h
    have ha' : m = true → r.1.new = true ∧ allNew rs = true := fun z => by
      have := ha z
      simp only [allNew, List.all_cons, Bool.and_eq_true] at this
      exact this
    exact .cons (rr.sub fun a n hn => hp _ a (fun z => (ha' z).1) n hn) (Elts.reps hp (fun z => (ha' z).2) q)
theorem Elts.length : ∀ {rs : List R} {vs : List V}, Elts K H0 B ρ σ H rs vs → rs.length = vs.length
  | [], _, h => by cases h; rfl
  | _ :: _, _, ⟨v, vr, h, _, q⟩ => by subst h; rw [List.length_cons, List.length_cons, q.length]
end
theorem take_outs {os : List (Option R)} {i : Nat} {o : Option R} (h : os[i]? = some o) : (os.take (i + 1)).filterMap id = (os.take i).filterMap id ++ o.toList := by
  rw [List.take_add_one, h, List.filterMap_append]
  cases o <;> rfl
theorem outs_le (os : List (Option R)) (i : Nat) : ((os.take i).filterMap id).length ≤ i :=
  Nat.le_trans (List.length_filterMap_le _ _) (by rw [List.length_take]; exact Nat.min_le_left _ _)
section
variable {X : Cx} {J : Hp → Prop} {exv : Str → Option Addr} {k : Nat} {W : WX} {N : List Str} {sc : Scope} {nm : List Str} {S : Sig} {H0 : Hp} {B : Addr → Prop} {ρ : Env} {pos p2 : Pos}
theorem Cok.blk (C : Cok X J exv k W N sc nm S) (s : Shared) (H : Hp) (scope : Scope) (Cc : Addr) (cl : List (Str × Addr)) (fp : List Addr) (h0 : ((relS scope sc).names.lookup (".0" : Str)).isSome = true) :
    Cok (X.blk s H scope (compEnvC scope cl Cc X.env) fp) J exv k (fun _ _ _ _ => False) N (relS scope sc) nm S where
  hN := C.hN
  nd := C.nd
  hsc := by rw [← C.hsc]; rfl
  fnok := fun x h => by
    refine .inr ?_
    unfold setB at h
    show (relS scope X.env.scope).names.lookup x = _
    rw [C.hsc]
    split at h
    · assumption
    · cases e : (relS scope sc).names.lookup (".0" : Str) with
      | none => rw [e] at h0; cases h0
      | some k => rw [e] at h; cases h
    · cases h
  calm := C.calm
  room := C.room
  jk := C.jk
  blt := C.blt
  fns := fun f x h => by
    obtain ⟨a, fd, ps, F⟩ := C.fns f x h
    exact ⟨a, fd, ps, F.mg, F.kp, F.bi, F.ok⟩
  tk := takes0
  exs := C.exs
  glo := C.glo
  clo := fun z => by
    cases e : (relS scope sc).names.lookup (".0" : Str) with
    | none => rw [e] at h0; cases h0
    | some k => rw [e] at z; cases z
theorem noOwn_own {ρ : Env} {σ : St} {ts : List Nat} {a : Addr} (h : noOwnAt ρ ts = true) (o : OwnS ρ σ a) : OwnS (wipeE ρ ts) (wipe σ ts) a := by
  obtain ⟨i, d, h1, h2⟩ := o
  have hi : i ∉ ts := fun z => by
    have := List.all_eq_true.mp h i z
    rw [h1] at this
    cases this
  exact ⟨i, d, by rw [wipeE_off hi]; exact h1, by rw [wipe_get, if_neg hi]; exact h2⟩
theorem own_wipe {ρ : Env} {σ : St} {ts : List Nat} {a : Addr} (o : OwnS (wipeE ρ ts) (wipe σ ts) a) : OwnS ρ σ a := by
  obtain ⟨i, d, h1, h2⟩ := o
  obtain ⟨hi, h3⟩ := wipeE_get h1
  rw [wipe_get, if_neg hi] at h2
  exact ⟨i, d, h3, h2⟩
theorem lc_all (C : Cok X J exv k W N sc nm S) {elt tg iter : Expr} {ifs : List Expr} {scope : Scope} {ts : List Nat} {rit : M (Kd × List D)} {fe : Env → M R} {fc : Env → M Bool}
    (h0 : ((relS scope sc).names.lookup (".0" : Str)).isSome = true) (hi : JI X J exv W H0 B tg iter ρ rit) (oi : okE iter = true) (ok : blkC N sc scope (ownOf N ts) = true) (hg : tgOk N (relS scope sc) ts tg = true)
    (he : ∀ s H Cc cl fp B ρ, JE (X.blk s H scope (compEnvC scope cl Cc X.env) fp) J exv (fun _ _ _ _ => False) H0 B elt ρ (fe ρ))
    (hc : (ifs = [] ∧ ∀ ρ, fc ρ = .ok true) ∨ ∃ c, ifs = [c] ∧ ∀ s H Cc cl fp B ρ, JT (X.blk s H scope (compEnvC scope cl Cc X.env) fp) J exv (fun _ _ _ _ => False) H0 B c ρ (fc ρ)) :
    ∃ (tt : TT) (te : TE), (∀ s H Cc cl fp, PTs (X.blk s H scope (compEnvC scope cl Cc X.env) fp) ifs tt) ∧ (∀ s H Cc cl fp, PE (X.blk s H scope (compEnvC scope cl Cc X.env) fp) elt te) ∧ (∀ s H Cc cl fp, PG (X.blk s H scope (compEnvC scope cl Cc X.env) fp) tg (tgG X.K ts)) ∧
      ∀ (r : M R), r = (rit.bind fun ki => (noEx (compM (fun x => (bindT ki.1.new x (wipeE ρ ts) ts).bind fun ρ' => (fc ρ').bind fun b =>
      if b then (fe ρ').bind fun r => .ok (some r) else .ok none) ki.2)).bind fun rs => guard' (noOwnAt ρ ts = true ∧ noOwn rs = true ∧ ki.2.length < lim) (.ok (.top (allNew rs), .lst (rs.map (·.2))))) → ∀ σ H Q, Fr J X.K H0 B ρ σ H → r ≠ .stuck → Wish J exv W σ H r → (∀ k d, r = .ok (k, d) → ∀ v H', Ext J H H' → ResOk X.K H0 B ρ σ H H' k d v → Q v H') → tLc (tIt X tg iter) (tgG X.K ts) tt te ((ownOf N ts).map (·.2)) σ H Q := by
  have own2 : (ownOf N ts).map (·.2) = ts := by
    unfold ownOf; rw [List.map_map]; exact (List.map_congr_left fun _ _ => rfl).trans (List.map_id _)
  have TG' := fun s H Cc cl fp => tg_of (X := X.blk s H scope (compEnvC scope cl Cc X.env) fp) (N := N) (sc := relS scope sc) C.hN C.nd (by rw [← C.hsc]; rfl) (C.blk s H scope Cc cl fp h0).fnok C.calm hg
  obtain ⟨tt, htt, hty⟩ : ∃ tt : TT, (∀ s H Cc cl fp, PTs (X.blk s H scope (compEnvC scope cl Cc X.env) fp) ifs tt) ∧ ∀ B ρ σ H Q b, Fr J X.K H0 B ρ σ H → fc ρ = .ok b → (∀ H', Ext J H H' → Q b H') → tt σ H Q := by
    rcases hc with ⟨e, e2⟩ | ⟨c, e, h⟩
    · subst e
      exact ⟨tYes, fun _ _ _ _ _ => pts_nil, fun B ρ σ H Q b _ e q => by rw [e2 ρ] at e; cases e; exact q H (.refl _)⟩
    · subst e
      refine ⟨fun σ H Q => ∀ s H' Cc cl fp, tT (X.blk s H' scope (compEnvC scope cl Cc X.env) fp) c σ H Q, fun s H' Cc cl fp => pts_one ⟨fun pins s1 σ H Q I hh => hh s H' Cc cl fp pins s1 I⟩, fun B ρ σ H Q b f e q s H' Cc cl fp => ?_⟩
      exact h s H' Cc cl fp B ρ σ H Q f (by rw [e]; exact fun z => nomatch z) (fun c z => by rw [e] at z; cases z) fun b' eb H2 x => by
        rw [e] at eb; cases eb; exact q H2 x
  have TE' : ∀ B ρ σ H (Q : VK) k d, Fr J X.K H0 B ρ σ H → fe ρ = .ok (k, d) → (∀ v H', Ext J H H' → ResOk X.K H0 B ρ σ H H' k d v → Q v H') → ∀ s H' Cc cl fp, tE (X.blk s H' scope (compEnvC scope cl Cc X.env) fp) elt σ H Q := fun B ρ σ H Q k d f e q s H' Cc cl fp =>
    he s H' Cc cl fp B ρ σ H Q f (by rw [e]; exact fun z => nomatch z) (fun c z => by rw [e] at z; cases z) fun k' d' e' v H2 x r => by
      rw [e] at e'; cases e'; exact q v H2 x r
  refine ⟨tt, fun σ H Q => ∀ s H' Cc cl fp, tE (X.blk s H' scope (compEnvC scope cl Cc X.env) fp) elt σ H Q, htt, fun s H' Cc cl fp => ⟨fun pins s1 σ H Q I hh => hh s H' Cc cl fp pins s1 I⟩, fun s H Cc cl fp => (TG' s H Cc cl fp).1, ?_⟩
  intro r0 hr0 σ H Q fr ns w kk
  subst hr0
  rw [own2]
  refine hi σ H _ fr (bind_ns ns) w.left fun kd items er H1 x1 f1 Jt A Src P its Da hD => ?_
  rw [er] at ns w
  obtain ⟨rs, ers⟩ := noEx_ok (bind_ns ns)
  obtain ⟨rs', ec⟩ : ∃ rs', compM (fun x => (bindT kd.new x (wipeE ρ ts) ts).bind fun ρ' => (fc ρ').bind fun b => if b then (fe ρ').bind fun r => .ok (some r) else .ok none) items = .ok rs' := by
    cases z : compM (fun x => (bindT kd.new x (wipeE ρ ts) ts).bind fun ρ' => (fc ρ').bind fun b => if b then (fe ρ').bind fun r => .ok (some r) else .ok none) items with
    | ok a => exact ⟨a, rfl⟩
    | stuck => simp only [z] at ers; cases ers
    | ex c => simp only [z] at ers; cases ers
  have e3 : (M.ok (kd, items)).bind (fun ki => (noEx (compM (fun x => (bindT ki.1.new x (wipeE ρ ts) ts).bind fun ρ' => (fc ρ').bind fun b =>
      if b then (fe ρ').bind fun r => .ok (some r) else .ok none) ki.2)).bind fun rs => guard' (noOwnAt ρ ts = true ∧ noOwn rs = true ∧ ki.2.length < lim) (.ok (.top (allNew rs), .lst (rs.map (·.2))))) = guard' (noOwnAt ρ ts = true ∧ noOwn rs' = true ∧ items.length < lim) (M.ok (Kd.top (allNew rs'), D.lst (rs'.map (·.2)))) := by
    show (noEx (compM _ items)).bind _ = _
    rw [ec]
    rfl
  rw [e3] at ns
  obtain ⟨⟨g1, g2, g3⟩, ge⟩ := guard_ns ns
  have er2 := e3.trans ge
  rw [← er] at er2
  obtain ⟨os, ol, oh, oe⟩ := compM_outs ec
  -- the hidden list
  have nown : ∀ (i : Nat) r, os[i]? = some (some r) → r.1.isOwn = false := fun i r z => by
    have hm : r ∈ rs' := by
      rw [oe, List.mem_filterMap]
      exact ⟨some r, List.mem_of_getElem? z, rfl⟩
    have := List.all_eq_true.mp g2 r hm
    simpa using this
  refine ⟨fun i m H => i + m = items.length ∧ Fr J X.K H0 (fun a => B a ∨ a = Da) (wipeE ρ ts) (wipe σ ts) H ∧ Src H ∧ P H (NN H0 (fun a => B a ∨ a = Da) (wipeE ρ ts) (wipe σ ts) kd.new) ∧ Ext J H1 H ∧
    ∃ ys, H Da = some (.lst ys) ∧ Elts X.K H0 (fun a => B a ∨ a = Da) (wipeE ρ ts) (wipe σ ts) H ((os.take i).filterMap id) ys, ⟨items.length, by omega, Fr.hide C.jk (f1.wipe ts) hD, ?_, ?_, Ext.new C.jk hD, [], upd_same, rfl⟩, ?_⟩
  · exact its.stb H1 _ (fun a o ha e n => by rw [upd_ne (ne_of_none e hD)]; exact e) its.src
  · refine its.pm H1 _ _ _ ?_ its.p0
    exact Mov.trans (Mov.ofSub fun a n hn => ⟨fun z => n.1 (own_wipe z), fun z => z.elim n.2.1 fun z => hn (by rw [z]; exact hD), n.2.2⟩) (Mov.ofExt (Ext.new C.jk hD))
  · rintro i m H2 ⟨hm, f2, s2, p2, x2, ys, hy, el⟩
    have ylen := el.length
    by_cases hi' : i < items.length
    · refine .inr ⟨its.go i H2 s2 hi', fun H' => Fr J X.K H0 (fun a => B a ∨ a = Da) (wipeE ρ ts) (wipe σ ts) H' ∧ Src H' ∧ P H' (NN H0 (fun a => B a ∨ a = Da) (wipeE ρ ts) (wipe σ ts) kd.new) ∧ Ext J H1 H' ∧
        ∃ ys, H' Da = some (.lst ys) ∧ Elts X.K H0 (fun a => B a ∨ a = Da) (wipeE ρ ts) (wipe σ ts) H' ((os.take (i + 1)).filterMap id) ys, fun H' nx => ⟨m - 1, by omega, by omega, nx⟩, fun x H3 hyl => ?_⟩
      have hdi : items[i]? = some items[i] := by simp [hi']
      generalize items[i] = di at hdi
      obtain ⟨x3, r3⟩ := its.yld i H2 x H3 _ di s2 p2 hyl hdi
      have hoi : ∃ o, os[i]? = some o := ⟨os[i]'(by rw [ol]; exact hi'), by simp [ol, hi']⟩
      obtain ⟨o, hoi⟩ := hoi
      have ho := oh i di o hdi hoi
      have f3 := f2.go x3
      cases eb : bindT kd.new di (wipeE ρ ts) ts with
      | stuck => rw [eb] at ho; cases ho
      | ex c => rw [eb] at ho; cases ho
      | ok ρ2 =>
        rw [eb] at ho
        have ho : ((fc ρ2).bind fun b => if b then (fe ρ2).bind fun r => .ok (some r) else .ok none) = M.ok o := ho
        refine ((TG' X.s_0 H Da [] []).2 J H0 (fun a => B a ∨ a = Da)).go kd.new di x _ ρ2 _ H3 _ f3 r3 eb fun σ2 f4 st4 l4 o4 => ⟨wipe_eq l4 o4, ?_⟩
        cases ec2 : fc ρ2 with
        | stuck => rw [ec2] at ho; cases ho
        | ex c => rw [ec2] at ho; cases ho
        | ok b =>
          rw [ec2] at ho
          have ho : (if b then (fe ρ2).bind fun r => .ok (some r) else .ok none) = M.ok o := ho
          refine hty _ ρ2 σ2 H3 _ b f4 ec2 fun H5 x5 => ?_
          cases b with
          | false =>
            cases ho
            have x25 := x3.trans x5
            refine ⟨f2.go x25, its.stb H2 _ (fun a o _ e n => x25.keep a o e n) s2, its.pm H2 _ _ _ (Mov.ofExt x25) p2, x2.trans x25, ys, (x25.keep _ _ hy fun _ q => nomatch q), ?_⟩
            rw [take_outs hoi]
            simp only [Option.toList, List.append_nil]
            exact el.move fun n => Mov.ofExt x25
          | true =>
            have ho : ((fe ρ2).bind fun r => .ok (some r)) = M.ok o := ho
            cases ee : fe ρ2 with
            | stuck => rw [ee] at ho; cases ho
            | ex c => rw [ee] at ho; cases ho
            | ok r =>
              rw [ee] at ho
              cases ho
              obtain ⟨k6, d6⟩ := r
              have no6 : k6.isOwn = false := nown i _ hoi
              refine TE' _ ρ2 σ2 H5 _ k6 d6 (f4.go x5) ee fun v H6 x6 q6 => ?_
              have r6 := q6.rep (f4.go x5) x6 no6
              have x26 := (x3.trans x5).trans x6
              have hy6 : H6 Da = some (.lst ys) := x26.keep _ _ hy fun _ q => nomatch q
              refine ⟨ys, hy6, ?_, ?_⟩
              · have := outs_le os i
                unfold lim at g3
                unfold sizeLine
                omega
              · have f6 := f2.go x26
                have nD : ∀ a, (B a ∨ a = Da) ∨ a ≠ Da := fun a => by by_cases z : a = Da; exact .inl (.inr z); exact .inr z
                have mv : ∀ n, Mov X.K H6 (upd H6 Da (.lst (ys ++ [v]))) (NN H0 (fun a => B a ∨ a = Da) (wipeE ρ ts) (wipe σ ts) n) (NN H0 (fun a => B a ∨ a = Da) (wipeE ρ ts) (wipe σ ts) n) := fun n => Mov.ofUpd hy6 trivial fun a z e => z.2.1 (.inr e)
                have ks : ∀ a o, H2 a = some o → (∀ ps, o ≠ .tbl ps) → a ≠ Da → (upd H6 Da (.lst (ys ++ [v]))) a = some o := fun a o e n ne => by rw [upd_ne ne]; exact x26.keep a o e n
                refine ⟨Fr.updHid C.jk f6 (.inr rfl) hy6, ?_, its.pm H2 _ _ _ ((Mov.ofExt x26).trans (mv _)) p2, ?_, ys ++ [v], upd_same, ?_⟩
                · refine its.stb H2 _ (fun a o ha e n => ks a o e n fun z => ?_) s2
                  exact (its.dom a ha).1 (by rw [z]; exact hD)
                · have x16 := x2.trans x26
                  refine ⟨fun b u e n => by rw [upd_ne (ne_of_none e hD)]; exact x16.keep b u e n, fun b e => ?_, fun _ => C.jk.lst _ _ _ _ hy6 f6.j⟩
                  by_cases z : b = Da
                  · rw [z]; exact hD
                  · rw [upd_ne z] at e; exact x16.free b e
                · rw [take_outs hoi]
                  refine Elts.snoc ?_ (el.move fun n => (Mov.ofExt x26).trans (mv n))
                  refine (r6.sub (N' := NN H0 (fun a => B a ∨ a = Da) (wipeE ρ ts) (wipe σ ts) k6.new) fun a z _ => ⟨fun w => z.1 ?_, z.2⟩).move (mv _)
                  obtain ⟨j, d, h1, h2⟩ := w
                  have hj := (wipeE_get h1).1
                  exact ⟨j, d, by rw [bindT_off eb hj]; exact h1, by rw [o4 j hj]; exact h2⟩
    · refine .inl ⟨its.stop i H2 s2 (by omega), ?_⟩
      have ht : os.take i = os := List.take_of_length_le (by rw [ol]; omega)
      rw [ht, ← oe] at el
      refine kk _ _ er2 _ H2 (x1.trans x2) ⟨Da, rfl, x1.free Da hD, ys, hy, ?_⟩
      refine el.reps (m := allNew rs') (fun n a hn z _ => ⟨⟨fun w => z.1 (noOwn_own g1 w), fun w => z.2.1 (.inl w), fun w => z.2.2 (hn w)⟩, fun w => z.2.1 (.inr w)⟩) id
theorem je_lc (C : Cok X J exv k W N sc nm S) {elt tg iter : Expr} {ifs : List Expr} {scope : Scope} {ts : List Nat} {rit : M (Kd × List D)} {fe : Env → M R} {fc : Env → M Bool}
    (h0 : ((relS scope sc).names.lookup (".0" : Str)).isSome = true) (hi : JI X J exv W H0 B tg iter ρ rit) (oi : okE iter = true) (ok : blkC N sc scope (ownOf N ts) = true) (hg : tgOk N (relS scope sc) ts tg = true)
    (he : ∀ s H Cc cl fp B ρ, JE (X.blk s H scope (compEnvC scope cl Cc X.env) fp) J exv (fun _ _ _ _ => False) H0 B elt ρ (fe ρ))
    (hc : (ifs = [] ∧ ∀ ρ, fc ρ = .ok true) ∨ ∃ c, ifs = [c] ∧ ∀ s H Cc cl fp B ρ, JT (X.blk s H scope (compEnvC scope cl Cc X.env) fp) J exv (fun _ _ _ _ => False) H0 B c ρ (fc ρ)) :
    JE X J exv W H0 B (.ListComp elt [⟨tg, iter, ifs, 0⟩] scope pos) ρ (rit.bind fun ki => (noEx (compM (fun x => (bindT ki.1.new x (wipeE ρ ts) ts).bind fun ρ' => (fc ρ').bind fun b =>
      if b then (fe ρ').bind fun r => .ok (some r) else .ok none) ki.2)).bind fun rs => guard' (noOwnAt ρ ts = true ∧ noOwn rs = true ∧ ki.2.length < lim) (.ok (.top (allNew rs), .lst (rs.map (·.2))))) := by
  obtain ⟨tt, te, h1, h2, h3, h4⟩ := lc_all C h0 hi oi ok hg he hc
  intro σ H Q fr ns w kk
  exact tE_of (pe_lc C.calm (by rw [C.hN]; exact C.nd) pi_self (blkOk_by (own := ownOf N ts) (by rw [C.hN, C.hsc]; exact ok)) h3 h1 h2 (fun x => fold_ok oi x)) (h4 _ rfl σ H Q fr ns w kk)
end
end PyV
namespace PyV
open PySem L2 PyProof.Rows
section
variable {X : Cx} {J : Hp → Prop} {exv : Str → Option Addr} {k : Nat} {W : WX} {N : List Str} {sc : Scope} {nm : List Str} {S : Sig} {H0 : Hp} {B : Addr → Prop} {ρ : Env} {pos p2 p3 p4 : Pos} {e a b c : Expr} {ra rb rc : M R} {es : List Expr} {rs : M (List R)}
/-! ### sorted(set(e)) -/
theorem sst_ints {x : PyV.D} {d : PyV.D} (h : dSst x = .ok d) : ∃ (xs : List PyV.D) (ns : List Int), (x = .lst xs ∨ x = .tup xs) ∧ intsD xs = some ns ∧ ns.length < 4000 ∧ (sortU ns).length < 64 ∧ d = .lst ((sortU ns).map .int) := by
  have key : ∀ xs : List PyV.D, dSstL xs = .ok d → ∃ ns : List Int, intsD xs = some ns ∧ ns.length < 4000 ∧ (sortU ns).length < 64 ∧ d = .lst ((sortU ns).map .int) := fun xs h => by
    unfold dSstL at h
    split at h
    · rename_i ns hn
      obtain ⟨g, h⟩ := guard_ok h
      cases h
      exact ⟨ns, hn, g.1, g.2, rfl⟩
    · cases h
  cases x with
  | lst xs => obtain ⟨ns, h1, h2⟩ := key xs h; exact ⟨xs, ns, .inl rfl, h1, h2⟩
  | tup xs => obtain ⟨ns, h1, h2⟩ := key xs h; exact ⟨xs, ns, .inr rfl, h1, h2⟩
  | _ => cases h
theorem rep_intsR {H : Hp} {P : Addr → Prop} : ∀ ns : List Int, Reps X.K H P (ns.map PyV.D.int) (ns.map V.int)
  | [] => .nil
  | n :: ns => .cons (.int n) (rep_intsR ns)
theorem je_sst (C : Cok X J exv k W N sc nm S) (hg : glB sc "sorted" = true) (hg2 : glB sc "set" = true) (oa : okE a = true) (ha : JE X J exv W H0 B a ρ ra) :
    JE X J exv W H0 B (.Call (.Name "sorted" p2) [.Call (.Name "set" p3) [a] [] p4] [] pos) ρ (ra.bind fun x => (dSst x.2).bind fun d => .ok (.top true, d)) := by
  intro σ H Q fr ns w kk pins s I
  refine Call_ (ld_blt I (gl_of C hg).1 (C.blt _ (by decide +kernel)) (blt_boot .sorted) (callWith_builtin1 (args_cons ?_ rfl) rfl rfl))
  refine Call_ (ld_blt I (gl_of C hg2).1 (C.blt _ (by decide +kernel)) boot_set (callWith_type1 (args_cons (thn (ha.use (Q := fun x H1 => ∃ d1 : PyV.D, Ext J H H1 ∧ (∃ d, dSst d1 = .ok d ∧ ∀ v H', Ext J H1 H' → ResOk X.K H0 B ρ σ H H' (.top true) d v → Q v H') ∧ ∃ n, Rep1 X.K H1 (NN H0 B ρ σ n) d1 x) fr ns w (fun k1 d1 e1 v1 H1 x1 f1 q1 ns1 w1 => ?_) pins s I) fun v s1 ⟨x, H1, I1, r1, q1⟩ => args_nil ?_) (star_ok oa)) (star_ok oa) rfl))
  · rcases ok_of_ns ns1 with ⟨d, hd⟩ | ⟨c, hd⟩
    · refine ⟨d1, x1, ⟨d, hd, fun v H' x2 r => kk _ _ ?_ v H' (x1.trans x2) r⟩, _, q1.rep1 f1⟩
      rw [e1]
      show (dSst d1).bind _ = _
      rw [hd]
      rfl
    · exfalso
      cases d1 <;> first
        | (cases hd; done)
        | (have hd : dSstL _ = .ex c := hd
           unfold dSstL at hd
           split at hd
           · unfold guard' at hd
             split at hd <;> cases hd
           · cases hd)
  · obtain ⟨d1, x1, ⟨d, hd, kk⟩, n, r⟩ := q1
    obtain ⟨xs, ns, hx, hi, h4, h64, rfl⟩ := sst_ints hd
    have fin : ∀ (a1 : Addr) (h' : Heap) (tk c : Nat), SetR X.w h' s1.heap.objs.size (fun j => decide (j ∈ ns)) c → (∀ b o, s1.heap.get? b = some o → h'.get? b = some o) →
        wpAny (model X.prog X.w) X.A (call (.builtin "sorted") [.ref s1.heap.objs.size]) (EP X pins σ Q) X.xe { s1 with heap := h', toks := tk } := fun a1 h' tk c hS hk => by
      have hc := setR_size hS
      have I2 : Inv X pins σ H1 { s1 with heap := h', toks := tk } := I1.kept hk
      refine sorted_set hS (I2.ok.hd C.calm) (by omega) fun s' p out c' ms k2 g2 o2 hp hget hi2 hs2 hm2 hl2 => ?_
      have em : ms = sortU ns := sorted_uniq hs2 (sortU_lt ns) fun z => by rw [hm2, mem_sortU]; exact ⟨fun h => of_decide_eq_true h, fun h => decide_eq_true h⟩
      subst em
      have hn := I2.hok.fresh hp
      have hlen : ((sortU ns).map V.int).length ≤ sizeLine := by rw [List.length_map, sizeLine_eq]; omega
      have I3 : Inv X pins σ (upd H1 p (.lst ((sortU ns).map V.int))) { { s1 with heap := h', toks := tk } with heap := s'.heap, gens := s'.gens, drawn := s'.drawn, toks := s'.toks } :=
        I2.call (s := { s1 with heap := h', toks := tk }) (ch := []) (Un.laid (by exact k2) hp hn) (I2.hok.laid k2 hp ⟨hlen, out.toList, c', vals_of_ints hi2, hget⟩) (by rw [g2]; exact I2.bare) (fun _ z => nomatch z)
      have es : s' = { s1 with heap := s'.heap, gens := s'.gens, drawn := s'.drawn, toks := s'.toks } := by
        cases s'; cases s1; cases o2; rfl
      rw [es]
      exact ⟨.ref p, _, I3, rfl, kk _ _ (Ext.new C.jk hn) (res_lst0 C.jk hn x1 (rep_intsR _))⟩
    rcases hx with rfl | rfl
    · obtain ⟨a1, vs, rfl, ha1, qa⟩ := r1_lst r
      obtain ⟨ev, _⟩ := ints_rep hi qa
      subst ev
      cases r1
      obtain ⟨its, rv, pl, hz⟩ := I1.list (.of ha1)
      exact set_of_lst ns (I1.ok.hd C.calm) pl.isList (by simpa using rv.ints) (by unfold scanBound; omega) fun h' tk c hS hk => args_nil (fin a1 h' tk c hS hk)
    · obtain ⟨a1, vs, rfl, ha1, qa⟩ := r1_tup r
      obtain ⟨ev, _⟩ := ints_rep hi qa
      subst ev
      cases r1
      obtain ⟨its, rv, pl, hz⟩ := I1.tuple ha1.sq
      exact call_set_tupI ns (I1.ok.hd C.calm) pl (by simpa using rv.ints) (by unfold scanBound; omega) fun h' tk c hS _ hk => args_nil (fin a1 h' tk c hS hk)
/-! ### a call of a name that holds a nested def -/
theorem je_callv (C : Cok X J exv k W N sc nm S) {i : Nat} {x : Str} {v : V} {tg : Tg} (hx : nameOk N sc i x = true) (h0 : (sc.names.lookup (".0" : Str)).isNone = true) (hi : ρ[i]? = some (some (tg, .opq v))) (ok : ∀ a ∈ e :: es, okE a = true) (h : JA X J exv W H0 B (e :: es) ρ rs) :
    JE X J exv W H0 B (.Call (.Name x p2) (e :: es) [] pos) ρ ((noEx rs).bind fun rs => (S.call cloN (.opq v :: rs.map (·.2))).bind fun d => .ok (mkR true d)) := by
  intro σ H Q fr ns w kk pins s I
  obtain ⟨v', hv', sl⟩ := fr.at_ i _ _ hi
  have ev : v' = v := by
    cases tg with
    | own => obtain ⟨a, _, _, _, t⟩ := sl; exact t.elim
    | new => cases (show Rep X.K H _ (.opq v) v' from sl); rfl
    | old => cases (show Rep X.K H _ (.opq v) v' from sl); rfl
  subst ev
  obtain ⟨n1, n2, n3, n4⟩ := ix_name C hx
  by_cases hs : ∃ l, rs = .ok l
  · obtain ⟨l, el⟩ := hs
    have ns' : S.call cloN (.opq v' :: l.map (·.2)) ≠ .stuck := fun z => by rw [el] at ns; exact ns (by show (S.call cloN _).bind _ = _; rw [z]; rfl)
    obtain ⟨f, F, ps, fr', ws, rfl, Fn, hJ, CA, hf1, hf2⟩ := C.clo h0 v' (l.map (·.2)) ns'
    refine wpAny_Call_Name_kw (thn ((pe_var (pos := p2) n1 n2 n3 n4).run pins s σ H (fun v H1 => v = .ref f ∧ H1 = H) I ⟨.ref f, hv', rfl, rfl⟩) fun u s1 ⟨v, H1, I1, r1, q1⟩ => ?_)
    obtain ⟨e1, e2⟩ := q1
    subst e1; subst e2
    obtain rfl : u = Value.ref f := r1
    refine PySem.W.callWith_F (first := []) (NdefX.fnAt_of I1 (hJ _ fr.j).1) (thn (h σ H1 (fun vs H2 => Ext J H1 H2 ∧ Fr J X.K H0 B ρ σ H2 ∧ ResAll H0 B X.K ρ σ H1 H2 l vs) fr (by rw [el]; exact fun z => nomatch z) (fun c z => by rw [el] at z; cases z) (fun rs' e1 vs H2 x2 q2 => by
      rw [el] at e1; cases e1
      exact ⟨x2, fr.go x2, q2⟩) pos pins s1 I1) fun us s2 ⟨vs, H2, I2, r, x2, f2, q2⟩ => ⟨NdefX.fnAt_of I2 (hJ _ f2.j).1, ?_⟩) (star_ok (ok _ List.mem_cons_self)) (back_ok fun y hy => ok y (List.mem_cons_of_mem _ hy))
    refine wpAny_call (codeAny_mono (Fn.run X.A X.stack s2 H2 us vs ws (fun v H3 => Q v H3) (WE W σ) C.room I2.env0 (hJ _ f2.j).1 (hJ _ f2.j).2 (CA.later hf1 hf2 I2) r ⟨rfl, l.map (·.2), f2.j, ResAll.any f2 q2, ?_⟩) fun r3 s3 hq => ?_)
    · dsimp only
      cases hd : S.call cloN (.opq (.ref f) :: l.map (·.2)) with
      | stuck => exact absurd hd ns'
      | ok d =>
        intro v3 H3 x3 r3
        refine kk _ _ ?_ v3 H3 (x2.trans x3) (res_call f2 x2 r3)
        rw [el]
        show (S.call cloN _).bind _ = _
        rw [hd]
        rfl
      | ex c =>
        intro C' H3 hc x3
        exact w c (by rw [el]; show (S.call cloN _).bind _ = _; rw [hd]; rfl) C' H3 hc (x2.trans x3)
    · cases r3 with
      | error e => exact passAt C.tk σ pins H2 s2 e s3 I2 hq
      | ok fl => cases fl with
        | ret u => exact I2.after hq
        | next => exact False.elim hq
        | brk => exact False.elim hq
        | cont => exact False.elim hq
  · cases rs with
    | ok l => exact absurd ⟨l, rfl⟩ hs
    | stuck => exact absurd rfl ns
    | ex c => exact absurd rfl ns
end
end PyV
namespace PyV
open PySem L2
section
variable {J : Hp → Prop} {exv : Str → Option Addr} {k : Nat} {N : List Str} {nm : List Str} {S : Sig} {H0 : Hp}
theorem chks_ok {sc : Scope} : ∀ {t : IEs} {es : List Expr}, chkEs N sc nm t es = true → ∀ e ∈ es, okE e = true
  | .nil, es, h, e, he => by
    rw [chkEs.eq_def] at h
    dsimp only at h
    cases es with
    | nil => cases he
    | cons => cases h
  | .cons t ts, [], h, e, he => by cases he
  | .cons t ts, x :: es, h, e, he => by
    rw [chkEs.eq_def] at h
    dsimp only at h
    obtain ⟨h1, h2⟩ := Bool.and_eq_true_iff.mp h
    rcases List.mem_cons.mp he with z | z
    · rw [z]; exact chk_ok h1
    · exact chks_ok h2 e z
theorem chkIt_ok {sc : Scope} {t : IT} {tg e : Expr} (h : chkIt N sc nm t tg e = true) : okE e = true := by
  cases t with
  | sq a => rw [chkIt.eq_def] at h; dsimp only at h; exact chk_ok h
  | zp => rw [chkIt.eq_def] at h; dsimp only at h; split at h <;> first | (split at h <;> first | rfl | cases h) | cases h
  | en => rw [chkIt.eq_def] at h; dsimp only at h; split at h <;> first | (split at h <;> first | rfl | cases h) | cases h
  | r1 a => rw [chkIt.eq_def] at h; dsimp only at h; split at h <;> first | rfl | cases h
  | r2 a b => rw [chkIt.eq_def] at h; dsimp only at h; split at h <;> first | rfl | cases h
def plE : Expr → Bool
  | .UnaryOp .Not _ _ => false
  | .BoolOp .. => false
  | .IfExp .. => false
  | .Compare .. => false
  | _ => true
theorem both {X : Cx} {W : WX} {B : Addr → Prop} {e : Expr} {ρ : Env} {r : M R} (h : JE X J exv W H0 B e ρ r) (hp : plE e = true) : JE X J exv W H0 B e ρ r ∧ JT X J exv W H0 B e ρ (r.bind asB) := ⟨h, jt_plain (plainT hp) h⟩
theorem okI_pure (e : Expr) : True := trivial
theorem bn_name {x : Str} (h : x ∈ builtinNames) : x ≠ "__name__" := by
  intro z
  subst z
  revert h
  decide +kernel
theorem chk_nc {sc : Scope} {t : IE} {e : Expr} (h : chkE N sc nm t e = true) : ∀ i p cp, e ≠ .Call (.Name i p) [] [] cp := by
  intro i p cp z
  subst z
  cases t <;> (rw [chkE.eq_def] at h; simp at h)
theorem chkD_keys {sc : Scope} : ∀ {t : IEs} {ks : List (Option Expr)} {vs : List Expr}, chkD N sc nm t ks vs = true → keysOk ks vs = true
  | .nil, ks, vs, h => by
    rw [chkD.eq_def] at h
    dsimp only at h
    cases ks <;> cases vs <;> first | rfl | cases h
  | .cons _ .nil, ks, vs, h => by rw [chkD.eq_def] at h; cases h
  | .cons t (.cons t2 ts), ks, vs, h => by
    rw [chkD.eq_def] at h
    dsimp only at h
    split at h
    · rename_i k0 ks0 v0 vs0
      obtain ⟨h, h3⟩ := Bool.and_eq_true_iff.mp h
      have q : keysOk ks0 vs0 = true := chkD_keys (t := ts) h3
      exact q
    · cases h
theorem chkD_nil {sc : Scope} {t : IEs} {vs : List Expr} {ρ : PyV.Env} (h : chkD N sc nm t [] vs = true) : evEs S t ρ = .ok [] := by
  rw [chkD.eq_def] at h
  dsimp only at h
  split at h
  · rw [evEs]
  · cases h
  · cases h
mutual
theorem s_E (t : IE) : ∀ {X : Cx} {W : WX} {sc : Scope} {e : Expr} {B : Addr → Prop} {ρ : Env}, Cok X J exv k W N sc nm S → chkE N sc nm t e = true → JE X J exv W H0 B e ρ (evE S t ρ) ∧ JT X J exv W H0 B e ρ ((evE S t ρ).bind asB) := by
  intro X W sc e B ρ C h
  match t with
  | .v i =>
    rw [chkE.eq_def] at h
    dsimp only at h
    split at h
    · exact both (je_v C h) rfl
    · cases h
  | .kn =>
    rw [chkE.eq_def] at h
    dsimp only at h
    split at h
    · exact both (by rw [evE]; exact je_c pe_non fun _ _ => .non) rfl
    · cases h
  | .kb b =>
    rw [chkE.eq_def] at h
    dsimp only at h
    split at h
    · obtain rfl := eq_of_beq h
      exact both (by rw [evE]; exact je_c pe_bl fun _ _ => .bl _) rfl
    · cases h
  | .ki n =>
    rw [chkE.eq_def] at h
    dsimp only at h
    split at h
    · obtain rfl := eq_of_beq h
      exact both (by rw [evE]; exact je_c pe_int fun _ _ => .int _) rfl
    · cases h
  | .ks x =>
    rw [chkE.eq_def] at h
    dsimp only at h
    split at h
    · obtain rfl := of_decide_eq_true h
      exact both (by rw [evE]; exact je_c pe_str fun _ _ => .str _) rfl
    · cases h
  | .ty n =>
    rw [chkE.eq_def] at h
    dsimp only at h
    split at h
    · obtain ⟨h, h3⟩ := Bool.and_eq_true_iff.mp h
      obtain ⟨h1, h2⟩ := Bool.and_eq_true_iff.mp h
      have h2 := of_decide_eq_true h2
      exact both (by rw [evE]; exact je_c (pe_bltn (gl_of C h1).1 (C.blt _ h2) (of_decide_eq_true h3) (v := .ty n) rfl (bn_name h2) (gl_of C h1).2) fun _ _ => .opq _) rfl
    · cases h
  | .gl x =>
    rw [chkE.eq_def] at h
    dsimp only at h
    split at h
    · obtain ⟨h1, h2⟩ := Bool.and_eq_true_iff.mp h
      obtain rfl := of_decide_eq_true h1
      refine both (fun σ H Q fr ns w kk => ?_) rfl
      rw [evE] at ns kk
      cases hg : S.glob x with
      | none => rw [hg] at ns; exact absurd rfl ns
      | some d =>
        rw [hg] at kk
        obtain ⟨v, u, h4, h5, h6⟩ := C.glo x d hg H (NN H0 B ρ σ true)
        exact tE_of (pe_glob (gl_of C h2).1 h4 h5 (gl_of C h2).2) (kk (.pl true) d rfl v H (.refl _) h6)
    · cases h
  | .no => cases h
  | .bin op a b =>
    rw [chkE.eq_def] at h
    dsimp only at h
    split at h
    · obtain ⟨h, h2⟩ := Bool.and_eq_true_iff.mp h
      obtain ⟨h0, h1⟩ := Bool.and_eq_true_iff.mp h
      obtain rfl := of_decide_eq_true h0
      exact both (by rw [evE]; exact je_bin C (s_E a C h1).1 (s_E b C h2).1) rfl
    · cases h
  | .neg a =>
    rw [chkE.eq_def] at h
    dsimp only at h
    split at h
    · exact both (by rw [evE]; exact je_neg C (s_E a C h).1) rfl
    · cases h
  | .nt a =>
    rw [chkE.eq_def] at h
    dsimp only at h
    split at h
    · rw [evE]
      exact ⟨je_nt (s_E a C h).1, jt_nt (s_E a C h).2⟩
    · cases h
  | .cmp op a b =>
    rw [chkE.eq_def] at h
    dsimp only at h
    split at h
    · obtain ⟨h, h2⟩ := Bool.and_eq_true_iff.mp h
      obtain ⟨h0, h1⟩ := Bool.and_eq_true_iff.mp h
      obtain rfl := of_decide_eq_true h0
      rw [evE]
      exact ⟨je_cmp C (chk_ok h2) (s_E a C h1).1 (s_E b C h2).1, jt_cmp C (chk_ok h2) (s_E a C h1).1 (s_E b C h2).1⟩
    · cases h
  | .chn op op2 a b c =>
    rw [chkE.eq_def] at h
    dsimp only at h
    split at h
    · obtain ⟨h, h3⟩ := Bool.and_eq_true_iff.mp h
      obtain ⟨h, h2⟩ := Bool.and_eq_true_iff.mp h
      obtain ⟨h, h1⟩ := Bool.and_eq_true_iff.mp h
      obtain ⟨h0, h00⟩ := Bool.and_eq_true_iff.mp h
      obtain rfl := of_decide_eq_true h0
      obtain rfl := of_decide_eq_true h00
      rw [evE]
      exact ⟨je_chn C (chk_ok h3) (s_E a C h1).1 (s_E b C h2).1 (s_E c C h3).1, jt_chn C (chk_ok h3) (s_E a C h1).1 (s_E b C h2).1 (s_E c C h3).1⟩
    · cases h
  | .bop op es =>
    rw [chkE.eq_def] at h
    dsimp only at h
    split at h
    · obtain ⟨h0, h1⟩ := Bool.and_eq_true_iff.mp h
      obtain rfl := of_decide_eq_true h0
      rw [evE]
      exact ⟨(s_B es C h1).1, (s_B es C h1).2.jt⟩
    · cases h
  | .ite c a b =>
    rw [chkE.eq_def] at h
    dsimp only at h
    split at h
    · obtain ⟨h, h3⟩ := Bool.and_eq_true_iff.mp h
      obtain ⟨h1, h2⟩ := Bool.and_eq_true_iff.mp h
      rw [evE]
      exact ⟨je_ite (s_E c C h1).2 (s_E a C h2).1 (s_E b C h3).1, jt_ite (s_E c C h1).2 (s_E a C h2).2 (s_E b C h3).2⟩
    · cases h
  | .tup es =>
    rw [chkE.eq_def] at h
    dsimp only at h
    split at h
    · exact both (by rw [evE]; exact je_tup C (s_Es es C h)) rfl
    · cases h
  | .lst es =>
    rw [chkE.eq_def] at h
    dsimp only at h
    split at h
    · exact both (by rw [evE]; exact je_lst C (s_Es es C h)) rfl
    · cases h
  | .dct es =>
    rw [chkE.eq_def] at h
    dsimp only at h
    split at h
    · obtain ⟨h1, h2⟩ := Bool.and_eq_true_iff.mp h
      refine both ?_ rfl
      rw [evE]
      exact je_dct C (fun z => by subst z; exact chkD_nil h1) (chkD_keys h1) (of_decide_eq_true h2) fun B => s_D es C h1
    · cases h
  | .ix a i =>
    rw [chkE.eq_def] at h
    dsimp only at h
    split at h
    · obtain ⟨h1, h2⟩ := Bool.and_eq_true_iff.mp h
      exact both (by rw [evE]; exact je_ix C (chk_ok h2) (s_E a C h1).1 (s_E i C h2).1) rfl
    · cases h
  | .sl a lo hi =>
    rw [chkE.eq_def] at h
    dsimp only at h
    split at h
    · obtain ⟨h, h3⟩ := Bool.and_eq_true_iff.mp h
      obtain ⟨h1, h2⟩ := Bool.and_eq_true_iff.mp h
      refine both ?_ rfl
      rw [evE]
      refine je_sl C (s_E a C h1).1 ?_ ?_
      · split at h2
        · rw [if_pos h2]
        · obtain ⟨h4, h5⟩ := Bool.and_eq_true_iff.mp h2
          rw [if_neg (by simpa using h4)]
          exact ⟨_, rfl, (s_E lo C h5).1⟩
      · split at h3
        · rw [if_pos h3]
        · obtain ⟨h4, h5⟩ := Bool.and_eq_true_iff.mp h3
          rw [if_neg (by simpa using h4)]
          exact ⟨_, rfl, (s_E hi C h5).1⟩
    · cases h
  | .call f es =>
    rw [chkE.eq_def] at h
    dsimp only at h
    split at h
    · obtain ⟨h, h3⟩ := Bool.and_eq_true_iff.mp h
      obtain ⟨h1, h2⟩ := Bool.and_eq_true_iff.mp h
      exact both (by rw [evE]; exact je_call C (of_decide_eq_true h1) h2 (chks_ok h3) (s_Es es C h3)) rfl
    · cases h
  | .bl b es =>
    rw [chkE.eq_def] at h
    dsimp only at h
    split at h
    · obtain ⟨h, h3⟩ := Bool.and_eq_true_iff.mp h
      obtain ⟨h1, h2⟩ := Bool.and_eq_true_iff.mp h
      exact both (by rw [evE]; exact je_bl C (of_decide_eq_true h1) h2 (chks_ok h3) (s_Es es C h3)) rfl
    · cases h
  | .get2 o a b =>
    rw [chkE.eq_def] at h
    dsimp only at h
    split at h
    · obtain ⟨h, h5⟩ := Bool.and_eq_true_iff.mp h
      obtain ⟨h, h4⟩ := Bool.and_eq_true_iff.mp h
      obtain ⟨h, h3⟩ := Bool.and_eq_true_iff.mp h
      obtain ⟨h1, h2⟩ := Bool.and_eq_true_iff.mp h
      obtain rfl := of_decide_eq_true h1
      refine both ?_ rfl
      rw [evE]
      exact je_get C h5 (chk_nc h2) (chk_ok h3) (chk_ok h4) (s_E o C h2).1 (s_E a C h3).1 (s_E b C h4).1
    · cases h
  | .lrg a b =>
    rw [chkE.eq_def] at h
    dsimp only at h
    split at h
    · rename_i x xp y yp as cp p
      obtain ⟨h, h5⟩ := Bool.and_eq_true_iff.mp h
      obtain ⟨h, h4⟩ := Bool.and_eq_true_iff.mp h
      obtain ⟨h, h3⟩ := Bool.and_eq_true_iff.mp h
      obtain ⟨h1, h2⟩ := Bool.and_eq_true_iff.mp h
      obtain rfl := of_decide_eq_true h1
      obtain rfl := of_decide_eq_true h3
      refine both ?_ rfl
      rw [evE]
      split at h5
      · obtain ⟨h6, h7⟩ := Bool.and_eq_true_iff.mp h5
        split at h6
        · obtain rfl := eq_of_beq h6
          rw [evE]
          exact je_lrg1 C h2 h4 (chk_ok h7) (s_E b C h7).1
        · cases h6
      · obtain ⟨h6, h7⟩ := Bool.and_eq_true_iff.mp h5
        exact je_lrg2 C h2 h4 (chk_ok h6) (chk_ok h7) (s_E a C h6).1 (s_E b C h7).1
      · cases h5
    · cases h
  | .trg a b =>
    rw [chkE.eq_def] at h
    dsimp only at h
    split at h
    · rename_i x xp y yp as cp p
      obtain ⟨h, h5⟩ := Bool.and_eq_true_iff.mp h
      obtain ⟨h, h4⟩ := Bool.and_eq_true_iff.mp h
      obtain ⟨h, h3⟩ := Bool.and_eq_true_iff.mp h
      obtain ⟨h1, h2⟩ := Bool.and_eq_true_iff.mp h
      obtain rfl := of_decide_eq_true h1
      obtain rfl := of_decide_eq_true h3
      refine both ?_ rfl
      rw [evE]
      split at h5
      · obtain ⟨h6, h7⟩ := Bool.and_eq_true_iff.mp h5
        split at h6
        · obtain rfl := eq_of_beq h6
          rw [evE]
          exact je_trg1 C h2 h4 (chk_ok h7) (s_E b C h7).1
        · cases h6
      · obtain ⟨h6, h7⟩ := Bool.and_eq_true_iff.mp h5
        exact je_trg2 C h2 h4 (chk_ok h6) (chk_ok h7) (s_E a C h6).1 (s_E b C h7).1
      · cases h5
    · cases h
  | .mn a =>
    rw [chkE.eq_def] at h
    dsimp only at h
    split at h
    · obtain ⟨h, h3⟩ := Bool.and_eq_true_iff.mp h
      obtain ⟨h1, h2⟩ := Bool.and_eq_true_iff.mp h
      obtain rfl := of_decide_eq_true h1
      exact both (by rw [evE]; exact je_mn C h2 (chk_ok h3) (s_E a C h3).1) rfl
    · cases h
  | .sst a =>
    rw [chkE.eq_def] at h
    dsimp only at h
    split at h
    · obtain ⟨h, h5⟩ := Bool.and_eq_true_iff.mp h
      obtain ⟨h, h4⟩ := Bool.and_eq_true_iff.mp h
      obtain ⟨h, h3⟩ := Bool.and_eq_true_iff.mp h
      obtain ⟨h1, h2⟩ := Bool.and_eq_true_iff.mp h
      obtain rfl := of_decide_eq_true h1
      obtain rfl := of_decide_eq_true h3
      exact both (by rw [evE]; exact je_sst C h2 h4 (chk_ok h5) (s_E a C h5).1) rfl
    · cases h
  | .callv i es =>
    rw [chkE.eq_def] at h
    dsimp only at h
    split at h
    · obtain ⟨h, h3⟩ := Bool.and_eq_true_iff.mp h
      obtain ⟨h1, h2⟩ := Bool.and_eq_true_iff.mp h
      refine both ?_ rfl
      rw [evE]
      split
      · rename_i hi
        exact je_callv C h1 h2 hi (chks_ok h3) (s_Es es C h3)
      · exact fun σ H Q fr ns => absurd rfl ns
    · cases h
  | .lc elt ts it cd =>
    rw [chkE.eq_def] at h
    dsimp only at h
    split at h
    · obtain ⟨h, h5⟩ := Bool.and_eq_true_iff.mp h
      obtain ⟨h, h4⟩ := Bool.and_eq_true_iff.mp h
      obtain ⟨h, h3⟩ := Bool.and_eq_true_iff.mp h
      obtain ⟨h, h2⟩ := Bool.and_eq_true_iff.mp h
      obtain ⟨h0, h1⟩ := Bool.and_eq_true_iff.mp h
      refine both ?_ rfl
      rw [evE]
      refine je_lc C h0 (fc := fun ρ' => if isNo cd then .ok true else (evE S cd ρ').bind asB) (fe := fun ρ' => evE S elt ρ') (s_It it C h3) (chkIt_ok h3) h1 h2 (fun s H Cc cl fp B ρ => (s_E elt (C.blk s H _ Cc cl fp h0) h4).1) ?_
      split at h5
      · exact .inl ⟨rfl, fun ρ => by rw [if_pos h5]⟩
      · obtain ⟨h6, h7⟩ := Bool.and_eq_true_iff.mp h5
        refine .inr ⟨_, rfl, fun s H Cc cl fp B ρ => ?_⟩
        rw [if_neg (by simpa using h6)]
        exact (s_E cd (C.blk s H _ Cc cl fp h0) h7).2
      · cases h5
    · cases h
termination_by structural t
theorem s_Es (t : IEs) : ∀ {X : Cx} {W : WX} {sc : Scope} {es : List Expr} {B : Addr → Prop} {ρ : Env}, Cok X J exv k W N sc nm S → chkEs N sc nm t es = true → JA X J exv W H0 B es ρ (evEs S t ρ) := by
  intro X W sc es B ρ C h
  match t with
  | .nil =>
    rw [chkEs.eq_def] at h
    dsimp only at h
    cases es with
    | nil => rw [evEs]; exact ja_nil
    | cons => cases h
  | .cons t ts =>
    rw [chkEs.eq_def] at h
    dsimp only at h
    split at h
    · obtain ⟨h1, h2⟩ := Bool.and_eq_true_iff.mp h
      rw [evEs]
      exact ja_cons (chk_ok h1) (s_E t C h1).1 (s_Es ts C h2)
    · cases h
termination_by structural t
theorem s_B (t : IEs) : ∀ {X : Cx} {W : WX} {sc : Scope} {op : BoolOp} {es : List Expr} {pos : Pos} {B : Addr → Prop} {ρ : Env}, Cok X J exv k W N sc nm S → chkEs N sc nm t es = true → JE X J exv W H0 B (.BoolOp op es pos) ρ (evB S op t ρ) ∧ JW X J exv W H0 B (.BoolOp op es pos) ρ ((evB S op t ρ).bind asB) := by
  intro X W sc op es pos B ρ C h
  match t with
  | .nil =>
    rw [evB]
    exact ⟨fun σ H Q fr ns => absurd rfl ns, fun σ H Q fr ns => absurd rfl ns⟩
  | .cons t .nil =>
    rw [chkEs.eq_def] at h
    dsimp only at h
    split at h
    · rename_i e es
      obtain ⟨h1, h2⟩ := Bool.and_eq_true_iff.mp h
      rw [chkEs.eq_def] at h2
      dsimp only at h2
      cases es with
      | nil => rw [evB]; exact ⟨je_one (s_E t C h1).1, jw_one (s_E t C h1).2⟩
      | cons => cases h2
    · cases h
  | .cons t (.cons t2 ts) =>
    rw [chkEs.eq_def] at h
    dsimp only at h
    split at h
    · rename_i e es
      obtain ⟨h1, h2⟩ := Bool.and_eq_true_iff.mp h
      have q := fun pos => s_B (.cons t2 ts) (op := op) (pos := pos) (B := B) (ρ := ρ) C h2
      rw [chkEs.eq_def] at h2
      dsimp only at h2
      cases es with
      | nil => cases h2
      | cons e2 es =>
        rw [evB]
        exact ⟨je_more (s_E t C h1).1 (q pos).1, jw_more (s_E t C h1).2 (q pos).2⟩
    · cases h
termination_by structural t
theorem s_D (t : IEs) : ∀ {X : Cx} {W : WX} {sc : Scope} {ks : List (Option Expr)} {vs : List Expr} {B : Addr → Prop} {ρ : PyV.Env}, Cok X J exv k W N sc nm S → chkD N sc nm t ks vs = true → JD X J exv W H0 B ks vs ρ (evEs S t ρ) := by
  intro X W sc ks vs B ρ C h
  match t with
  | .nil =>
    rw [chkD.eq_def] at h
    dsimp only at h
    rw [evEs]
    cases ks with
    | nil =>
      cases vs with
      | nil => exact jd_nil
      | cons => cases h
    | cons => cases h
  | .cons t .nil => rw [chkD.eq_def] at h; cases h
  | .cons t (.cons t2 ts) =>
    rw [chkD.eq_def] at h
    dsimp only at h
    split at h
    · obtain ⟨h, h3⟩ := Bool.and_eq_true_iff.mp h
      obtain ⟨h1, h2⟩ := Bool.and_eq_true_iff.mp h
      rw [evEs, evEs]
      exact jd_cons (s_E t C h1).1 (s_E t2 C h2).1 (s_D ts C h3)
    · cases h
termination_by structural t
theorem s_It (t : IT) : ∀ {X : Cx} {W : WX} {sc : Scope} {tg e : Expr} {B : Addr → Prop} {ρ : Env}, Cok X J exv k W N sc nm S → chkIt N sc nm t tg e = true → JI X J exv W H0 B tg e ρ (evIt S t ρ) := by
  intro X W sc tg e B ρ C h
  match t with
  | .sq a =>
    rw [chkIt.eq_def] at h
    dsimp only at h
    rw [evIt]
    exact ji_sq (s_E a C h).1
  | .r1 a =>
    rw [chkIt.eq_def] at h
    dsimp only at h
    split at h
    · obtain ⟨h, h3⟩ := Bool.and_eq_true_iff.mp h
      obtain ⟨h1, h2⟩ := Bool.and_eq_true_iff.mp h
      obtain rfl := of_decide_eq_true h1
      rw [evIt]
      exact ji_r1 C h2 (chk_ok h3) (s_E a C h3).1
    · cases h
  | .r2 a b =>
    rw [chkIt.eq_def] at h
    dsimp only at h
    split at h
    · obtain ⟨h, h4⟩ := Bool.and_eq_true_iff.mp h
      obtain ⟨h, h3⟩ := Bool.and_eq_true_iff.mp h
      obtain ⟨h1, h2⟩ := Bool.and_eq_true_iff.mp h
      obtain rfl := of_decide_eq_true h1
      rw [evIt]
      exact ji_r2 C h2 (chk_ok h3) (chk_ok h4) (s_E a C h3).1 (s_E b C h4).1
    · cases h
  | .zp a b =>
    rw [chkIt.eq_def] at h
    dsimp only at h
    split at h
    · split at h
      · obtain ⟨h, h4⟩ := Bool.and_eq_true_iff.mp h
        obtain ⟨h, h3⟩ := Bool.and_eq_true_iff.mp h
        obtain ⟨h1, h2⟩ := Bool.and_eq_true_iff.mp h
        obtain rfl := of_decide_eq_true h1
        rw [evIt]
        exact ji_zp C h2 (chk_ok h3) (chk_ok h4) (s_E a C h3).1 (s_E b C h4).1
      · cases h
    · cases h
  | .en a =>
    rw [chkIt.eq_def] at h
    dsimp only at h
    split at h
    · split at h
      · obtain ⟨h, h3⟩ := Bool.and_eq_true_iff.mp h
        obtain ⟨h1, h2⟩ := Bool.and_eq_true_iff.mp h
        obtain rfl := of_decide_eq_true h1
        rw [evIt]
        exact ji_en C h2 (chk_ok h3) (s_E a C h3).1
      · cases h
    · cases h
termination_by structural t
end
end
end PyV
namespace PyV
open PySem L2
section
variable (X : Cx) (J : Hp → Prop) (exv : Str → Option Addr) (W : WX) (H0 : Hp) (B : Addr → Prop)
/-- the wish about exceptions, from the entry on -/
def WishS {α : Type} (r : M α) : Prop := ∀ c, r = .ex c → ∀ C σ' H', exv c = some C → Ext J H0 H' → W (.ref C) none σ' H'
structure Kont (K : PySem.W.Frag) (ρ : Env) (σ : St) (H : Hp) (r : M Out) (D : Ends) : Prop where
  nx : ∀ ρ', r = .ok (.nx ρ') → ∀ σ' H', Fr J K H0 B ρ' σ' H' → Stp ρ σ H ρ' σ' H' → D.nx σ' H'
  rt : ∀ d, r = .ok (.rt d) → ∀ v H', Ext J H0 H' → Rep K H' (fun a => H0 a = none) d v → D.rt v H'
  bk : ∀ ρ', r = .ok (.bk ρ') → ∀ σ' H', Fr J K H0 B ρ' σ' H' → Stp ρ σ H ρ' σ' H' → D.bk σ' H'
  ct : ∀ ρ', r = .ok (.ct ρ') → ∀ σ' H', Fr J K H0 B ρ' σ' H' → Stp ρ σ H ρ' σ' H' → D.ct σ' H'
def JS (st : Stmt) (ρ : Env) (r : M Out) : Prop := ∀ σ H D, Fr J X.K H0 B ρ σ H → r ≠ .stuck → WishS J exv W H0 r → Kont J H0 B X.K ρ σ H r D → tSt X st D σ H
def JSs (ss : List Stmt) (ρ : Env) (r : M Out) : Prop := ∀ σ H D, Fr J X.K H0 B ρ σ H → r ≠ .stuck → WishS J exv W H0 r → Kont J H0 B X.K ρ σ H r D → tSs X ss D σ H
end
section
variable {X : Cx} {J : Hp → Prop} {exv : Str → Option Addr} {k : Nat} {W : WX} {N : List Str} {sc : Scope} {nm : List Str} {S : Sig} {H0 H H1 H2 : Hp} {B : Addr → Prop} {ρ ρ' : Env} {σ σ' : St} {pos p2 px : Pos} {e a b c tg : Expr} {ra rb rc : M R} {es : List Expr} {rs : M (List R)} {n : Bool} {d : D} {v : V} {D : Ends} {α β : Type} {r : M Out}
theorem WishS.at {r : M α} (w : WishS J exv W H0 r) (fr : Fr J X.K H0 B ρ σ H) : Wish J exv W σ H r := fun c h C H' hc x => w c h C σ H' hc (fr.ext.trans x)
theorem WishS.left {r : M α} {f : α → M β} (w : WishS J exv W H0 (r.bind f)) : WishS J exv W H0 r := fun c h => w c (by rw [h]; rfl)
theorem WishS.on {r : M α} {x : α} {f : α → M β} (w : WishS J exv W H0 (r.bind f)) (e : r = .ok x) : WishS J exv W H0 (f x) := by rw [e] at w; exact w
theorem ns_on {r : M α} {x : α} {f : α → M β} (w : r.bind f ≠ .stuck) (e : r = .ok x) : f x ≠ .stuck := by rw [e] at w; exact w
/-- an expression is evaluated, its end is known -/
theorem JE.useS {r : M R} {f : R → M β} {Q : VK} (h : JE X J exv W H0 B e ρ r) (fr : Fr J X.K H0 B ρ σ H) (ns : r.bind f ≠ .stuck) (w : WishS J exv W H0 (r.bind f))
    (k : ∀ kd d, r = .ok (kd, d) → ∀ v H', Ext J H H' → Fr J X.K H0 B ρ σ H' → ResOk X.K H0 B ρ σ H H' kd d v → f (kd, d) ≠ .stuck → WishS J exv W H0 (f (kd, d)) → Q v H') : tE X e σ H Q :=
  h σ H Q fr (bind_ns ns) (w.left.at fr) fun kd d e v H' x q => k kd d e v H' x (fr.go x) q (ns_on ns e) (w.on e)
theorem JT.useS {r : M Bool} {f : Bool → M β} {Q : Bool → Hp → Prop} (h : JT X J exv W H0 B e ρ r) (fr : Fr J X.K H0 B ρ σ H) (ns : r.bind f ≠ .stuck) (w : WishS J exv W H0 (r.bind f))
    (k : ∀ b, r = .ok b → ∀ H', Ext J H H' → Fr J X.K H0 B ρ σ H' → f b ≠ .stuck → WishS J exv W H0 (f b) → Q b H') : tT X e σ H Q :=
  h σ H Q fr (bind_ns ns) (w.left.at fr) fun b e H' x => k b e H' x (fr.go x) (ns_on ns e) (w.on e)
theorem Kont.go {f : R → M Out} {kd : Kd} {d : PyV.D} {r : M R} (k : Kont J H0 B X.K ρ σ H (r.bind f) D) (e : r = .ok (kd, d)) (x : Ext J H H1) : Kont J H0 B X.K ρ σ H1 (f (kd, d)) D := by
  rw [e] at k
  exact ⟨fun ρ' h σ' H' f' s => k.nx ρ' h σ' H' f' ((Stp.ext x).trans s), k.rt, fun ρ' h σ' H' f' s => k.bk ρ' h σ' H' f' ((Stp.ext x).trans s), fun ρ' h σ' H' f' s => k.ct ρ' h σ' H' f' ((Stp.ext x).trans s)⟩
theorem put_res {i : Nat} {mu : Bool} {kd : Kd} {t : Option (Tg × PyV.D)} (fr : Fr J X.K H0 B ρ σ H) (x : Ext J H H1) (q : ResOk X.K H0 B ρ σ H H1 kd d v) (e : entR mu (kd, d) = .ok t) :
    Fr J X.K H0 B (ρ.set i t) (σ.set i (some v)) H1 ∧ Stp ρ σ H (ρ.set i t) (σ.set i (some v)) H1 := by
  have f1 := fr.go x
  have sim : ∀ n : Bool, Rep X.K H1 (NN H0 B ρ σ n) d v → Fr J X.K H0 B (ρ.set i (some (if n then Tg.new else Tg.old, d))) (σ.set i (some v)) H1 ∧ Stp ρ σ H (ρ.set i (some (if n then Tg.new else Tg.old, d))) (σ.set i (some v)) H1 := fun n r => by
    obtain ⟨g1, g2⟩ := Fr.put (i := i) (t := some (if n then Tg.new else Tg.old, d)) (w := some v) f1 (fun d' z => by cases n <;> cases z) (fun m d' z => by
      cases n <;> cases m <;> first | (cases z; exact ⟨v, rfl, r⟩) | cases z)
    exact ⟨g1, (Stp.ext x).trans g2⟩
  cases kd with
  | own => cases e
  | top n =>
    by_cases hm : (mu && (n || pureE d)) = true
    · have e : M.ok (some (if (mu && (n || pureE d)) = true then Tg.own else if n = true then Tg.new else Tg.old, d)) = M.ok t := e
      rw [if_pos hm] at e
      cases e
      obtain ⟨p, rfl, hp, t⟩ := q
      by_cases hi : i < ρ.length
      · obtain ⟨g1, g2⟩ := Fr.putTop fr x hp t (Bool.and_eq_true_iff.mp hm).2 hi
        exact ⟨g1, g2⟩
      · rw [List.set_eq_of_length_le (by omega), List.set_eq_of_length_le (by rw [← fr.len]; omega)]
        exact ⟨f1, Stp.ext x⟩
    · have e : M.ok (some (if (mu && (n || pureE d)) = true then Tg.own else if n = true then Tg.new else Tg.old, d)) = M.ok t := e
      rw [if_neg hm] at e
      cases e
      exact sim n (q.rep fr x rfl)
  | pl n =>
    cases e
    exact sim n q
theorem js_set (C : Cok X J exv k W N sc nm S) {x : Str} {i : Nat} {mu : Bool} (hi : N[i]? = some x) (hx : setB sc x = true) (he : JE X J exv W H0 B e ρ ra)
    (hp : ∀ t, PE X e t → PS X (.Assign [.Name x px] e pos) (tAsg t (gName i))) :
    JS X J exv W H0 B (.Assign [.Name x px] e pos) ρ (ra.bind fun r => (entR mu r).bind fun t => .ok (.nx (ρ.set i t))) := by
  intro σ H D fr ns w kk
  refine tSt_of (hp _ pe_self) ?_
  refine he.useS fr ns w fun kd d e1 v H1 x1 f1 q1 ns1 w1 => ?_
  cases et : entR mu (kd, d) with
  | ok t =>
    obtain ⟨g1, g2⟩ := put_res (i := i) fr x1 q1 et
    exact kk.nx _ (by rw [e1]; show (entR mu (kd, d)).bind _ = _; rw [et]; rfl) _ _ g1 g2
  | stuck => simp only [et] at ns1; exact absurd rfl ns1
  | ex c => cases kd <;> cases et
/-- a second name for what is own: neither may change it from now on -/
theorem js_alias (C : Cok X J exv k W N sc nm S) {x y : Str} {i j : Nat} {mu : Bool} (hi : N[i]? = some x) (hx : setB sc x = true) (hy : nameOk N sc j y = true) :
    JS X J exv W H0 B (.Assign [.Name x px] (.Name y p2) pos) ρ ((evE S (.v j) ρ).bind fun r => if r.1.isOwn then .ok (.nx ((ρ.set j (some (.new, r.2))).set i (some (.new, r.2)))) else (entR mu r).bind fun t => .ok (.nx (ρ.set i t))) := by
  have hp := fun t (h : PE X (.Name y p2) t) => ps_set (pos := pos) (pos' := px) (i := i) (x := x) (by rw [C.hN]; exact C.nd) (by rw [C.hN]; exact hi) (loc_of C (setB_loc hx)) h rfl (C.fnok x hx)
  intro σ H D fr ns w kk
  cases hj : asOwn ρ j with
  | ok d =>
    have hj : ρ[j]? = some (some (.own, d)) := by
      unfold asOwn at hj
      split at hj <;> cases hj
      assumption
    obtain ⟨h1, h2, h3, h4⟩ := ix_name C hy
    have ee : evE S (.v j) ρ = .ok (.own, d) := by rw [evE, hj]
    refine tSt_of (hp _ (pe_var h1 h2 h3 h4)) ?_
    obtain ⟨v, hv, _⟩ := fr.at_ j .own d hj
    refine ⟨v, hv, ?_⟩
    obtain ⟨f2, s2⟩ := fr.freeze hj
    obtain ⟨v', hv', sl⟩ := f2.at_ j .new d (List.getElem?_set_self (List.getElem?_eq_some_iff.mp hj).1)
    rw [hv] at hv'
    cases hv'
    obtain ⟨g1, g2⟩ := Fr.put (i := i) (t := some (Tg.new, d)) (w := some v) f2 (fun d' z => by cases z) (fun m d' z => by
      cases m <;> cases z
      exact ⟨v, rfl, sl⟩)
    exact kk.nx _ (by rw [ee]; rfl) _ _ g1 (s2.trans g2)
  | _ =>
    have no : ∀ d, evE S (.v j) ρ ≠ .ok (.own, d) := fun d z => by
      rw [evE] at z
      split at z <;> cases z
      rename_i hq
      unfold asOwn at hj
      rw [hq] at hj
      cases hj
    have e0 : ((evE S (.v j) ρ).bind fun r => if r.1.isOwn then .ok (.nx ((ρ.set j (some (.new, r.2))).set i (some (.new, r.2)))) else (entR mu r).bind fun t => .ok (.nx (ρ.set i t))) = (evE S (.v j) ρ).bind fun r => (entR mu r).bind fun t => (.ok (.nx (ρ.set i t)) : M Out) := by
      cases e : evE S (.v j) ρ with
      | ok r =>
        obtain ⟨kd, d⟩ := r
        cases kd with
        | own => exact absurd e (no d)
        | _ => rfl
      | _ => rfl
    rw [e0] at ns w kk
    exact js_set C hi hx (je_v C hy) hp σ H D fr ns w kk
theorem asOwn_ok {i : Nat} (h : asOwn ρ i ≠ .stuck) : ∃ d, asOwn ρ i = .ok d ∧ ρ[i]? = some (some (.own, d)) := by
  unfold asOwn at h ⊢
  split at h
  · rename_i d hd
    exact ⟨d, rfl, hd⟩
  · exact absurd rfl h
theorem js_unp (C : Cok X J exv k W N sc nm S) {is : List Nat} {kk' : Nat} {p3 : Pos} (hg : tgtOk N sc is es = true) (hl : isLCE e = false) (oe : okE e = true) (ht : ∀ a b c, e ≠ .Tuple a b c) (he : JE X J exv W H0 B e ρ ra) :
    JS X J exv W H0 B (.Assign [.Tuple es kk' p3] e pos) ρ (ra.bind fun r => match tupOf r.2 with
    | some xs => guard' (xs.length = is.length) (.ok (.nx (bindTs r.1.new is xs ρ)))
    | none => .stuck) := by
  intro σ H D fr ns w kk
  obtain ⟨e1, e2, e3⟩ := tgt_each (env := X.env) hg
  refine tSt_of (ps_asg pe_self (pg_tup C.calm (pgs_of C.hN C.nd C.hsc C.fnok hg) e1 e2) (by unfold swapsWithSole; exact swap_ok oe hl) (by
    unfold swappedStores
    cases e <;> first | rfl | (exact absurd rfl (ht _ _ _))) rfl) ?_
  refine he.useS fr ns w fun kd d e1 v H1 x1 f1 q1 ns1 w1 => ?_
  cases d with
  | tup ds =>
    have ns1 : guard' (ds.length = is.length) (M.ok (Out.nx (bindTs kd.new is ds ρ))) ≠ .stuck := ns1
    obtain ⟨g, ge⟩ := guard_ns ns1
    obtain ⟨a, xs, rfl, hv, r⟩ := r1_tup (q1.rep1 f1)
    refine ⟨a, xs, rfl, hv.sq, by rw [← r.length]; exact g, bind_tgs (n := kd.new) (by rw [← r.length]; exact g.symm) f1 r fun σ' f2 s2 l2 o2 => ?_⟩
    exact kk.nx _ (by rw [e1]; exact ge) _ _ f2 ((Stp.ext x1).trans s2)
  | _ => exact absurd rfl ns1
theorem js_exp (hl : isLCE e = false) (oe : okE e = true) (he : JE X J exv W H0 B e ρ ra) : JS X J exv W H0 B (.Expr e pos) ρ (ra.bind fun _ => .ok (.nx ρ)) := by
  intro σ H D fr ns w kk
  refine tSt_of (ps_expr pe_self (swap_ok oe hl)) ?_
  refine he.useS fr ns w fun kd d e1 v H1 x1 f1 q1 ns1 w1 => ?_
  exact kk.nx _ (by rw [e1]; rfl) _ _ f1 (Stp.ext x1)
theorem fresh_rep {kd : Kd} (fr : Fr J X.K H0 B ρ σ H) (x : Ext J H H1) (q : ResOk X.K H0 B ρ σ H H1 kd d v) (h : freshR (kd, d) = true) : Rep X.K H1 (fun a => H0 a = none) d v := by
  have f1 := fr.go x
  cases kd with
  | own =>
    obtain ⟨j, h1, h2⟩ := q
    obtain ⟨w, h3, a, rfl, h4, h5, t⟩ := f1.at_ j _ d h1
    rw [h2] at h3
    cases h3
    exact t.rep (fun b z _ => z.2.2 rfl) h4
  | top n =>
    obtain ⟨p, rfl, h2, t⟩ := q
    cases n with
    | true => exact t.rep (fun b z _ => z.2.2 rfl) (fr.ext.free p h2)
    | false =>
      cases d with
      | lst => cases h
      | dct => cases h
      | _ => exact t.elim
  | pl n =>
    cases n with
    | true => exact Rep.sub (fun b z _ => z.2.2 rfl) q
    | false => exact Rep.pure (by simpa [freshR, Kd.new] using h) q
theorem js_ret (he : JE X J exv W H0 B e ρ ra) : JS X J exv W H0 B (.Return (some e) pos) ρ (ra.bind fun r => guard' (freshR r = true) (.ok (.rt r.2))) := by
  intro σ H D fr ns w kk
  refine tSt_of (ps_ret pe_self) ?_
  refine he.useS fr ns w fun kd d e1 v H1 x1 f1 q1 ns1 w1 => ?_
  obtain ⟨g, ge⟩ := guard_ns ns1
  exact kk.rt d (by rw [e1]; exact ge) v H1 (fr.ext.trans x1) (fresh_rep fr x1 q1 g)
theorem js_retN : JS X J exv W H0 B (.Return none pos) ρ (.ok (.rt .non)) := fun σ H D fr ns w kk => tSt_of ps_retN (kk.rt _ rfl _ _ fr.ext .non)
theorem js_pass : JS X J exv W H0 B (.Pass pos) ρ (.ok (.nx ρ)) := fun σ H D fr ns w kk => tSt_of ps_pass (kk.nx _ rfl _ _ fr .refl)
theorem js_brk : JS X J exv W H0 B (.Break pos) ρ (.ok (.bk ρ)) := fun σ H D fr ns w kk => tSt_of ps_break (kk.bk _ rfl _ _ fr .refl)
theorem js_cnt : JS X J exv W H0 B (.Continue pos) ρ (.ok (.ct ρ)) := fun σ H D fr ns w kk => tSt_of ps_continue (kk.ct _ rfl _ _ fr .refl)
theorem Kont.goT {f : Bool → M Out} {b : Bool} {r : M Bool} (k : Kont J H0 B X.K ρ σ H (r.bind f) D) (e : r = .ok b) (x : Ext J H H1) : Kont J H0 B X.K ρ σ H1 (f b) D := by
  rw [e] at k
  exact ⟨fun ρ' h σ' H' f' s => k.nx ρ' h σ' H' f' ((Stp.ext x).trans s), k.rt, fun ρ' h σ' H' f' s => k.bk ρ' h σ' H' f' ((Stp.ext x).trans s), fun ρ' h σ' H' f' s => k.ct ρ' h σ' H' f' ((Stp.ext x).trans s)⟩
theorem js_if {sa sb : List Stmt} {r1 r2 : M Out} (hc : JT X J exv W H0 B c ρ (rc.bind asB)) (ha : JSs X J exv W H0 B sa ρ r1) (hb : JSs X J exv W H0 B sb ρ r2) :
    JS X J exv W H0 B (.If c sa sb pos) ρ (rc.bind fun x => (asB x).bind fun t => if t then r1 else r2) := by
  have e0 : (rc.bind fun x => (asB x).bind fun t => if t then r1 else r2) = (rc.bind asB).bind fun t => if t then r1 else r2 := by rw [M.bind_assoc]
  rw [e0]
  intro σ H D fr ns w kk
  refine tSt_of (ps_if pt_self pss_self pss_self) ?_
  refine hc.useS fr ns w fun t e1 H1 x1 f1 ns1 w1 => ?_
  have kk := kk.goT e1 x1
  cases t with
  | true => exact ha σ H1 D f1 ns1 w1 kk
  | false => exact hb σ H1 D f1 ns1 w1 kk
theorem jss_nil : JSs X J exv W H0 B [] ρ (.ok (.nx ρ)) := fun σ H D fr ns w kk => tSs_of pss_nil (kk.nx _ rfl _ _ fr .refl)
def thenO (f : Env → M Out) : Out → M Out
  | .nx ρ' => f ρ'
  | o => .ok o
theorem jss_cons {st : Stmt} {ss : List Stmt} {r : M Out} {f : Env → M Out} (h1 : JS X J exv W H0 B st ρ r) (h2 : ∀ ρ', JSs X J exv W H0 B ss ρ' (f ρ')) : JSs X J exv W H0 B (st :: ss) ρ (r.bind (thenO f)) := by
  intro σ H D fr ns w kk
  refine tSs_of (pss_cons ps_self pss_self) ?_
  refine h1 σ H _ fr (bind_ns ns) w.left ⟨fun ρ' e σ' H' f' s => ?_, fun d e v H' x q => ?_, fun ρ' e σ' H' f' s => ?_, fun ρ' e σ' H' f' s => ?_⟩
  · subst e
    exact h2 ρ' σ' H' D f' ns w ⟨fun ρ2 h σ2 H2 f2 s2 => kk.nx ρ2 h σ2 H2 f2 (s.trans s2), kk.rt, fun ρ2 h σ2 H2 f2 s2 => kk.bk ρ2 h σ2 H2 f2 (s.trans s2), fun ρ2 h σ2 H2 f2 s2 => kk.ct ρ2 h σ2 H2 f2 (s.trans s2)⟩
  · subst e; exact kk.rt d rfl v H' x q
  · subst e; exact kk.bk ρ' rfl σ' H' f' s
  · subst e; exact kk.ct ρ' rfl σ' H' f' s
theorem js_rai (C : Cok X J exv k W N sc nm S) {x m : Str} {j : Nat} {p3 : Pos} (hg : glB sc x = true) : JS X J exv W H0 B (.Raise (some (.Call (.Name x p2) [.Constant (.str m) j p3] [] px)) none pos) ρ (if S.rai x then .ex x else .stuck) := by
  intro σ H D fr ns w kk
  by_cases hr : S.rai x = true
  · rw [if_pos hr] at w
    obtain ⟨Cc, hc, bmB, B', newId, initId, F, q, gC, kC, r1, r2⟩ := C.exs x hr
    refine tSt_of (ps_raise C.calm C.tk (pmk_own F q gC kC (raises_own r1 r2) (gl_of C hg).1 (gl_of C hg).2)) ?_
    exact w x rfl Cc σ H hc fr.ext
  · rw [if_neg hr] at ns
    exact absurd rfl ns
/-! ### changes of what is own -/
theorem Fr.ownAt {i : Nat} (f : Fr J X.K H0 B ρ σ H) (h : ρ[i]? = some (some (.own, d))) : ∃ a, σ[i]? = some (some (.ref a)) ∧ TopO X.K H (NN H0 B ρ σ true) d a ∧ OwnS ρ σ a := by
  obtain ⟨v, h1, a, rfl, h2, h3, t⟩ := f.at_ i _ d h
  exact ⟨a, h1, t, i, d, h, h1⟩
theorem rep_into {kd : Kd} {a : Addr} (fr : Fr J X.K H0 B ρ σ H) (x : Ext J H H1) (q : ResOk X.K H0 B ρ σ H H1 kd d v) (ho : kd.isOwn = false) (h : (kd.new || pureD d) = true) (o : OwnS ρ σ a) : Rep X.K H1 (But (NN H0 B ρ σ true) a) d v := by
  have r := q.rep fr x ho
  cases e : kd.new with
  | true => rw [e] at r; exact r.sub fun b n _ => ⟨n, fun z => n.1 (by rw [z]; exact o)⟩
  | false => exact r.pure (by rw [e] at h; simpa using h)
theorem asOwnL_ok {i : Nat} (h : asOwnL ρ i ≠ .stuck) : ∃ xs, asOwnL ρ i = .ok xs ∧ ρ[i]? = some (some (.own, .lst xs)) := by
  unfold asOwnL at h ⊢
  split at h
  · rename_i d hd
    exact ⟨d, rfl, hd⟩
  · exact absurd rfl h
theorem js_app (C : Cok X J exv k W N sc nm S) {x : Str} {i : Nat} {ap p3 : Pos} (hx : nameOk N sc i x = true) (oe : okE e = true) (hl : (ap.endLine == p3.line) = true) (he : JE X J exv W H0 B e ρ ra) :
    JS X J exv W H0 B (.Expr (.Call (.Attribute (.Name x px) "append" ap) [e] [] p3) pos) ρ ((asOwnL ρ i).bind fun xs => ra.bind fun r => guard' (r.1.isOwn = false ∧ (r.1.new || pureD r.2) = true ∧ xs.length < lim) (.ok (.nx (ρ.set i (some (.own, .lst (xs ++ [r.2]))))))) := by
  intro σ H D fr ns w kk
  obtain ⟨h1, h2, h3, h4⟩ := ix_name C hx
  obtain ⟨xs, ed, hd⟩ := asOwnL_ok (bind_ns ns)
  obtain ⟨a, ha, t0, ow⟩ := fr.ownAt hd
  refine tSt_of (ps_expr (pe_bm PySem.F.plainAttrs_list PySem.F.slot_list_append PySem.F.type_list_append mt_append (pe_var h1 h2 h3 h4) (pa_cons pe_self pa_nil (star_ok oe)) rfl (by rw [star_ok oe]; rfl) hl (star_ok oe) rfl) rfl) ?_
  rw [ed] at ns w kk
  refine ⟨_, ha, ?_⟩
  obtain ⟨vs, hv, r0⟩ := t0
  refine ⟨.inl ⟨rfl, vs, .of hv⟩, ?_⟩
  refine he.useS (f := fun r => guard' (r.1.isOwn = false ∧ (r.1.new || pureD r.2) = true ∧ xs.length < lim) (M.ok (Out.nx (ρ.set i (some (.own, .lst (xs ++ [r.2]))))))) fr ns w fun kd d e1 v H1 x1 f1 q1 ns1 w1 => ?_
  obtain ⟨⟨g1, g2, g3⟩, ge⟩ := guard_ns ns1
  have hv1 := x1.keep _ _ hv fun _ q => nomatch q
  have r1 := Reps.app (r0.ext x1) (.cons (rep_into fr x1 q1 g1 g2 ow) .nil)
  obtain ⟨c1, c2⟩ := Fr.chg (q := .lst (vs ++ [v])) (d' := .lst (xs ++ [d])) C.jk f1 hd ha hv1 (C.jk.lst _ _ _ _ hv1 f1.j) ⟨_, upd_same, r1.upd hv1 trivial fun b n => n.2⟩
  refine ⟨a, vs, v, rfl, rfl, hv1, ?_, ?_⟩
  · rw [← r0.length]; exact Nat.lt_of_lt_of_le g3 (by decide)
  · exact kk.nx _ (by rw [e1]; exact ge) _ _ c1 ((Stp.ext x1).trans c2)
theorem js_clr (C : Cok X J exv k W N sc nm S) {x : Str} {i : Nat} {ap p3 : Pos} (hx : nameOk N sc i x = true) (hl : (ap.endLine == p3.line) = true) :
    JS X J exv W H0 B (.Expr (.Call (.Attribute (.Name x px) "clear" ap) [] [] p3) pos) ρ ((asOwnL ρ i).bind fun _ => .ok (.nx (ρ.set i (some (.own, .lst []))))) := by
  intro σ H D fr ns w kk
  obtain ⟨h1, h2, h3, h4⟩ := ix_name C hx
  obtain ⟨xs, ed, hd⟩ := asOwnL_ok (bind_ns ns)
  obtain ⟨a, ha, t0, ow⟩ := fr.ownAt hd
  refine tSt_of (ps_expr (pe_bm0 PySem.F.plainAttrs_list PySem.F.slot_list_clear PySem.F.type_list_clear mt_clear (pe_var h1 h2 h3 h4) rfl hl) rfl) ?_
  rw [ed] at kk
  refine ⟨_, ha, ?_⟩
  obtain ⟨vs, hv, r0⟩ := t0
  refine ⟨.inl ⟨rfl, vs, .of hv⟩, a, vs, rfl, rfl, hv, ?_⟩
  obtain ⟨c1, c2⟩ := Fr.chg (q := .lst []) (d' := .lst []) C.jk fr hd ha hv (C.jk.lst _ _ _ _ hv fr.j) ⟨_, upd_same, .nil⟩
  exact kk.nx _ rfl _ _ c1 c2
theorem guard_ns' {p : Prop} [Decidable p] {x : M α} (h : guard' p x ≠ .stuck) : p ∧ guard' p x = x ∧ x ≠ .stuck := by
  unfold guard' at h ⊢
  by_cases hp : p
  · rw [if_pos hp] at h ⊢; exact ⟨hp, rfl, h⟩
  · rw [if_neg hp] at h; exact absurd rfl h
theorem js_sub (C : Cok X J exv k W N sc nm S) {x : Str} {i : Nat} {ek : Expr} {rk : M R} (hx : nameOk N sc i x = true) (oe : okE e = true) (hl : isLCE e = false) (ok : okE ek = true) (he : JE X J exv W H0 B e ρ ra) (hk : JE X J exv W H0 B ek ρ rk) :
    JS X J exv W H0 B (.Assign [.Subscript (.Name x px) ek p2] e pos) ρ ((asOwn ρ i).bind fun o => ra.bind fun r => rk.bind fun kk => guard' (r.1.isOwn = false ∧ (r.1.new || pureD r.2) = true) ((subD o kk.2 r.2).bind fun o' => .ok (.nx (ρ.set i (some (.own, o')))))) := by
  intro σ H D fr ns w kk
  obtain ⟨h1, h2, h3, h4⟩ := ix_name C hx
  obtain ⟨d0, ho, hd⟩ := asOwn_ok (bind_ns ns)
  rw [ho] at ns w kk
  obtain ⟨a, ha, t0, ow⟩ := fr.ownAt hd
  cases d0 with
  | lst xs =>
    refine tSt_of (ps_asg pe_self (pg_sub (pe_var h1 h2 h3 h4) pe_self set_list (fun v => by cases ek <;> first | rfl | cases ok)) (by unfold swapsWithSole; exact swap_ok oe hl) (by unfold swappedStores; cases e <;> rfl) rfl) ?_
    refine he.useS (f := fun r => rk.bind fun kk => guard' (r.1.isOwn = false ∧ (r.1.new || pureD r.2) = true) ((subD (.lst xs) kk.2 r.2).bind fun o' => M.ok (Out.nx (ρ.set i (some (Tg.own, o')))))) fr ns w fun kd d e1 v H1 x1 f1 q1 ns1 w1 => ?_
    refine ⟨_, ha, ?_⟩
    refine hk.useS f1 ns1 w1 fun kd2 d2 e2 v2 H2 x2 f2 q2 ns2 w2 => ?_
    obtain ⟨⟨g1, g2⟩, ge, gn⟩ := guard_ns' ns2
    obtain ⟨vs, hv, r0⟩ := t0
    have hv2 := (x1.trans x2).keep _ _ hv fun _ q => nomatch q
    obtain ⟨z, j, ez, hz⟩ : ∃ z j, d2 = .int z ∧ ixN xs.length z = some j := by
      cases d2 with
      | int z =>
        cases hz : ixN xs.length z with
        | none => simp only [subD, hz] at gn; exact absurd rfl gn
        | some j => exact ⟨z, j, rfl, hz⟩
      | _ => exact absurd rfl gn
    subst ez
    obtain rfl := r1_int (q2.rep1 f2)
    have r1 := Reps.set j ((rep_into fr x1 q1 g1 g2 ow).ext x2) (r0.ext (x1.trans x2))
    obtain ⟨c1, c2⟩ := Fr.chg (q := .lst (vs.set j v)) (d' := .lst (xs.set j d)) C.jk f2 hd ha hv2 (C.jk.lst _ _ _ _ hv2 f2.j) ⟨_, upd_same, r1.upd hv2 trivial fun b n => n.2⟩
    refine ⟨a, vs, z, j, rfl, rfl, hv2, by rw [← r0.length]; exact hz, ?_⟩
    refine kk.nx _ ?_ _ _ c1 ((Stp.ext (x1.trans x2)).trans c2)
    rw [e1, e2]
    refine ge.trans ?_
    simp only [subD, hz]
    rfl
  | dct kvs =>
    refine tSt_of (ps_dput (Nat.lt_of_le_of_lt (Nat.add_le_add_left (by decide : 1 ≤ 64) _) C.room.units) (pe_var h1 h2 h3 h4) pe_self pe_self (swap_ok oe hl)) ?_
    refine he.useS (f := fun r => rk.bind fun kk => guard' (r.1.isOwn = false ∧ (r.1.new || pureD r.2) = true) ((subD (.dct kvs) kk.2 r.2).bind fun o' => M.ok (Out.nx (ρ.set i (some (Tg.own, o')))))) fr ns w fun kd d e1 v H1 x1 f1 q1 ns1 w1 => ?_
    refine ⟨_, ha, ?_⟩
    refine hk.useS f1 ns1 w1 fun kd2 d2 e2 v2 H2 x2 f2 q2 ns2 w2 => ?_
    obtain ⟨⟨g1, g2⟩, ge, gn⟩ := guard_ns' ns2
    obtain ⟨vs, hv, r0⟩ := t0
    have hv2 := (x1.trans x2).keep _ _ hv fun _ q => nomatch q
    obtain ⟨key, hk, hz⟩ : ∃ key, keyD d2 = some key ∧ kvs.length < lim := by
      cases hk : keyD d2 with
      | none => simp only [subD, hk] at gn; exact absurd rfl gn
      | some key =>
        simp only [subD, hk] at gn
        exact ⟨key, rfl, (guard_ns (bind_ns gn)).1⟩
    obtain rfl := key_rep hk (q2.rep1 f2).any
    have r1 := put_rep (k := key) ((rep_into fr x1 q1 g1 g2 ow).ext x2) (r0.ext (x1.trans x2))
    obtain ⟨c1, c2⟩ := Fr.chg (q := .dK (putK vs key v)) (d' := .dct (putD kvs key d)) C.jk f2 hd ha hv2 (C.jk.dK _ _ _ _ hv2 f2.j) ⟨_, upd_same, r1.upd hv2 trivial fun b n => n.2⟩
    refine ⟨a, _, rfl, DPut.k hv2 (by rw [← repK_length r0]; exact Nat.lt_of_lt_of_le hz (by decide)), ?_⟩
    refine kk.nx _ ?_ _ _ c1 ((Stp.ext (x1.trans x2)).trans c2)
    rw [e1, e2]
    refine ge.trans ?_
    simp only [subD, hk, guard', hz, if_true]
    rfl
  | _ => exact t0.elim
end
end PyV
namespace PyV
open PySem L2
section
variable {X : Cx} {J : Hp → Prop} {exv : Str → Option Addr} {k : Nat} {W : WX} {N : List Str} {sc : Scope} {nm : List Str} {S : Sig} {H0 H H1 H2 : Hp} {B : Addr → Prop} {ρ ρ' : Env} {σ σ' : St} {pos p2 px : Pos} {e a b c tg it : Expr} {ra rb rc : M R} {es : List Expr} {rs : M (List R)} {n : Bool} {d : D} {v : V} {D : Ends} {α β : Type} {r : M Out} {body : List Stmt}
theorem JI.useS {r : M (Kd × List PyV.D)} {f : Kd × List PyV.D → M β} {Q : It → Hp → Prop} (h : JI X J exv W H0 B tg e ρ r) (fr : Fr J X.K H0 B ρ σ H) (ns : r.bind f ≠ .stuck) (w : WishS J exv W H0 (r.bind f))
    (k : ∀ kd items, r = .ok (kd, items) → ∀ H', Ext J H H' → Fr J X.K H0 B ρ σ H' → ∀ Jt A Src P, ItS X.K J (NN H0 B ρ σ kd.new) (OwnS ρ σ) kd items Jt H' A Src P → f (kd, items) ≠ .stuck → WishS J exv W H0 (f (kd, items)) → Q Jt H') : tIt X tg e σ H Q :=
  h σ H Q fr (bind_ns ns) (w.left.at fr) fun kd d e H' x f' Jt A Src P q => k kd d e H' x f' Jt A Src P q (ns_on ns e) (w.on e)
theorem bindT_ns {n : Bool} {x : PyV.D} {ts : List Nat} {f : Env → M Out} (h : (bindT n x ρ ts).bind f ≠ .stuck) : ∃ ρ', bindT n x ρ ts = .ok ρ' ∧ f ρ' ≠ .stuck := by
  cases e : bindT n x ρ ts with
  | stuck => rw [e] at h; exact absurd rfl h
  | ok ρ' => rw [e] at h; exact ⟨ρ', rfl, h⟩
  | ex c => exact absurd e bindT_ex
def afterO (f : Env → M Out) : Out → M Out
  | .nx ρ' => f ρ'
  | .ct ρ' => f ρ'
  | .bk ρ' => .ok (.nx ρ')
  | .rt d => .ok (.rt d)
theorem js_for (C : Cok X J exv k W N sc nm S) (hp : PassesOwn (model X.prog X.w) X.A X.env X.xe) {ts : List Nat} {rit : M (Kd × List PyV.D)} {fb : Env → M Out} (hi : JI X J exv W H0 B tg it ρ rit) (oi : okE it = true) (hg : tgOk N sc ts tg = true)
    (hb : ∀ ρ, JSs X J exv W H0 B body ρ (fb ρ)) :
    JS X J exv W H0 B (.For tg it body [] pos) ρ (rit.bind fun ki => guard' (ki.1.isOwn = false) (loopM (fun ρ x => (bindT ki.1.new x ρ ts).bind fun ρ' => fb ρ') ki.2 ρ)) := by
  intro σ H D fr ns w kk
  obtain ⟨pg, tp⟩ := tg_of C.hN C.nd C.hsc C.fnok C.calm hg
  refine tSt_of (ps_for hp C.calm pi_self pg pss_self (fun x => fold_ok oi x)) ?_
  refine hi.useS fr ns w fun kd items e1 H1 x1 f1 Jt A Src P its ns1 w1 => ?_
  obtain ⟨g1, ge, gn⟩ := guard_ns' ns1
  generalize hF : (fun ρ x => (bindT kd.new x ρ ts).bind fun ρ' => fb ρ') = F at ge gn
  have whole : (rit.bind fun ki => guard' (ki.1.isOwn = false) (loopM (fun ρ x => (bindT ki.1.new x ρ ts).bind fun ρ' => fb ρ') ki.2 ρ)) = loopM F items ρ := by
    rw [e1]; subst hF; exact ge
  rw [whole] at kk w
  refine ⟨fun i m σ' H' => i + m = items.length ∧ ∃ ρ', loopM F items ρ = loopM F (items.drop i) ρ' ∧ Fr J X.K H0 B ρ' σ' H' ∧ Stp ρ σ H1 ρ' σ' H', ⟨items.length, by omega, ρ, rfl, f1, .refl⟩, ?_⟩
  rintro i m σ2 H2 ⟨hm, ρ2, el, f2, s2⟩
  have src2 : Src H2 := its.stb H1 H2 (fun a o ha e n => s2.keep a o e n ((its.dom a ha).2 g1)) its.src
  have p2 : P H2 (NN H0 B ρ2 σ2 kd.new) := its.pm H1 H2 _ _ (s2.mov f1) its.p0
  by_cases hlt : i < items.length
  · refine .inr ⟨its.go i H2 src2 hlt, fun σ' H' => ∃ ρ', loopM F items ρ = loopM F (items.drop (i + 1)) ρ' ∧ Fr J X.K H0 B ρ' σ' H' ∧ Stp ρ σ H1 ρ' σ' H', fun σ' H' h => ⟨m - 1, by omega, by omega, h⟩, fun x H3 y => ?_⟩
    have hdi : items[i]? = some items[i] := by simp [hlt]
    have hdr : items.drop i = items[i] :: items.drop (i + 1) := by rw [List.drop_eq_getElem_cons hlt]
    generalize items[i] = di at hdi hdr
    obtain ⟨x3, r3⟩ := its.yld i H2 x H3 _ di src2 p2 y hdi
    have f3 := f2.go x3
    have el2 : loopM F items ρ = (F ρ2 di).bind (afterO (loopM F (items.drop (i + 1)))) := by
      rw [el, hdr]
      show (F ρ2 di).bind _ = _
      congr 1
    rw [el2] at gn w
    have nsF := bind_ns gn
    have wF := w.left
    have hFd : F ρ2 di = (bindT kd.new di ρ2 ts).bind fun ρ' => fb ρ' := by rw [← hF]
    rw [hFd] at nsF
    obtain ⟨ρ3, eb, nsb⟩ := bindT_ns nsF
    have hFe : F ρ2 di = fb ρ3 := by rw [hFd, eb]; rfl
    rw [hFe] at wF el2 gn w
    refine (tp J H0 B).go kd.new di x ρ2 ρ3 σ2 H3 _ f3 r3 eb fun σ4 f4 s4 l4 o4 => ?_
    have s24 := s2.trans ((Stp.ext x3).trans s4)
    refine hb ρ3 σ4 H3 _ f4 nsb wF ⟨fun ρ5 h σ5 H5 f5 s5 => ?_, fun d h v H5 x5 q5 => ?_, fun ρ5 h σ5 H5 f5 s5 => ?_, fun ρ5 h σ5 H5 f5 s5 => ?_⟩
    · exact ⟨ρ5, by rw [el2, h]; rfl, f5, s24.trans s5⟩
    · exact kk.rt d (by rw [el2, h]; rfl) v H5 x5 q5
    · exact kk.nx ρ5 (by rw [el2, h]; rfl) σ5 H5 f5 ((Stp.ext x1).trans (s24.trans s5))
    · exact ⟨ρ5, by rw [el2, h]; rfl, f5, s24.trans s5⟩
  · have e : items.drop i = [] := List.drop_eq_nil_of_le (by omega)
    refine .inl ⟨its.stop i H2 src2 (by omega), kk.nx ρ2 (by rw [el, e]; rfl) σ2 H2 f2 ((Stp.ext x1).trans s2)⟩
/-- for x in ..: if c: return e — what is walked may be own -/
theorem js_forIf (C : Cok X J exv k W N sc nm S) (hp : PassesOwn (model X.prog X.w) X.A X.env X.xe) {ts : List Nat} {rit : M (Kd × List PyV.D)} {fc fe : Env → M R} {ip rp : Pos} (hi : JI X J exv W H0 B tg it ρ rit) (oi : okE it = true) (hg : tgOk N sc ts tg = true)
    (hc : ∀ ρ, JT X J exv W H0 B c ρ ((fc ρ).bind asB)) (he : ∀ ρ, JE X J exv W H0 B e ρ (fe ρ)) :
    JS X J exv W H0 B (.For tg it [.If c [.Return (some e) rp] [] ip] [] pos) ρ (rit.bind fun ki => loopM (fun ρ x => (bindT ki.1.new x ρ ts).bind fun ρ' => (fc ρ').bind fun y => (asB y).bind fun b => if b then (fe ρ').bind fun r => guard' (freshR r = true) (.ok (.rt r.2)) else .ok (.nx ρ')) ki.2 ρ) := by
  intro σ H D fr ns w kk
  obtain ⟨pg, tp⟩ := tg_of C.hN C.nd C.hsc C.fnok C.calm hg
  refine tSt_of (ps_for hp C.calm pi_self pg (pss_one (ps_if pt_self (pss_one (ps_ret pe_self)) pss_nil)) (fun x => fold_ok oi x)) ?_
  refine hi.useS fr ns w fun kd items e1 H1 x1 f1 Jt A Src P its gn w1 => ?_
  generalize hF : (fun (ρ : Env) (x : PyV.D) => (bindT kd.new x ρ ts).bind fun ρ' => (fc ρ').bind fun y => (asB y).bind fun b => if b then (fe ρ').bind fun r => guard' (freshR r = true) (M.ok (Out.rt r.2)) else .ok (.nx ρ')) = F
  have whole : (rit.bind fun ki => loopM (fun ρ x => (bindT ki.1.new x ρ ts).bind fun ρ' => (fc ρ').bind fun y => (asB y).bind fun b => if b then (fe ρ').bind fun r => guard' (freshR r = true) (M.ok (Out.rt r.2)) else .ok (.nx ρ')) ki.2 ρ) = loopM F items ρ := by
    rw [e1]; subst hF; rfl
  rw [whole] at kk w
  have gn : loopM F items ρ ≠ .stuck := by subst hF; exact gn
  refine ⟨fun i m σ' H' => i + m = items.length ∧ ∃ ρ', loopM F items ρ = loopM F (items.drop i) ρ' ∧ Fr J X.K H0 B ρ' σ' H' ∧ Stp ρ σ H1 ρ' σ' H' ∧ Src H', ⟨items.length, by omega, ρ, rfl, f1, .refl, its.src⟩, ?_⟩
  rintro i m σ2 H2 ⟨hm, ρ2, el, f2, s2, src2⟩
  have p2 : P H2 (NN H0 B ρ2 σ2 kd.new) := its.pm H1 H2 _ _ (s2.mov f1) its.p0
  by_cases hlt : i < items.length
  · refine .inr ⟨its.go i H2 src2 hlt, fun σ' H' => ∃ ρ', loopM F items ρ = loopM F (items.drop (i + 1)) ρ' ∧ Fr J X.K H0 B ρ' σ' H' ∧ Stp ρ σ H1 ρ' σ' H' ∧ Src H', fun σ' H' h => ⟨m - 1, by omega, by omega, h⟩, fun x H3 y => ?_⟩
    have hdi : items[i]? = some items[i] := by simp [hlt]
    have hdr : items.drop i = items[i] :: items.drop (i + 1) := by rw [List.drop_eq_getElem_cons hlt]
    generalize items[i] = di at hdi hdr
    obtain ⟨x3, r3⟩ := its.yld i H2 x H3 _ di src2 p2 y hdi
    have f3 := f2.go x3
    have el2 : loopM F items ρ = (F ρ2 di).bind (afterO (loopM F (items.drop (i + 1)))) := by
      rw [el, hdr]
      show (F ρ2 di).bind _ = _
      congr 1
    rw [el2] at gn w
    have nsF := bind_ns gn
    have wF := w.left
    have hFd : F ρ2 di = (bindT kd.new di ρ2 ts).bind fun ρ' => ((fc ρ').bind asB).bind fun b => if b then (fe ρ').bind fun r => guard' (freshR r = true) (M.ok (Out.rt r.2)) else .ok (.nx ρ') := by
      rw [← hF]
      show (bindT kd.new di ρ2 ts).bind _ = _
      congr 1
      funext ρ'
      rw [M.bind_assoc]
    rw [hFd] at nsF
    obtain ⟨ρ3, eb, nsb⟩ := bindT_ns nsF
    have hFe : F ρ2 di = ((fc ρ3).bind asB).bind fun b => if b then (fe ρ3).bind fun r => guard' (freshR r = true) (M.ok (Out.rt r.2)) else .ok (.nx ρ3) := by rw [hFd, eb]; rfl
    rw [hFe] at wF el2 gn w
    refine (tp J H0 B).go kd.new di x ρ2 ρ3 σ2 H3 _ f3 r3 eb fun σ4 f4 s4 l4 o4 => ?_
    refine (hc ρ3).useS f4 nsb wF fun t et H5 x5 f5 ns5 w5 => ?_
    cases t with
    | true =>
      have ns5 : ((fe ρ3).bind fun r => guard' (freshR r = true) (M.ok (Out.rt r.2))) ≠ .stuck := ns5
      refine (he ρ3).useS f5 ns5 w5 fun kd6 d6 e6 v6 H6 x6 f6 q6 ns6 w6 => ?_
      obtain ⟨g6, ge6⟩ := guard_ns ns6
      refine kk.rt d6 ?_ v6 H6 (f5.ext.trans x6) (fresh_rep f5 x6 q6 g6)
      rw [el2, et]
      show ((fe ρ3).bind _).bind _ = _
      rw [e6]
      show (guard' _ _).bind _ = _
      rw [ge6]
      rfl
    | false =>
      have x35 := x3.trans x5
      refine ⟨ρ3, ?_, f5, s2.trans ((Stp.ext x3).trans (s4.trans (Stp.ext x5))), its.stb H2 H5 (fun a o _ e n => x35.keep a o e n) src2⟩
      rw [el2, et]
      rfl
  · have e : items.drop i = [] := List.drop_eq_nil_of_le (by omega)
    refine .inl ⟨its.stop i H2 src2 (by omega), kk.nx ρ2 (by rw [el, e]; rfl) σ2 H2 f2 ((Stp.ext x1).trans s2)⟩
theorem js_whl (C : Cok X J exv k W N sc nm S) (hp : PassesOwn (model X.prog X.w) X.A X.env X.xe) {fc : Env → M R} {fb : Env → M Out} {n : Nat} (hc : ∀ ρ, JT X J exv W H0 B c ρ ((fc ρ).bind asB)) (hb : ∀ ρ, JSs X J exv W H0 B body ρ (fb ρ)) :
    JS X J exv W H0 B (.While c body [] pos) ρ (whileM (fun ρ => (fc ρ).bind asB) (fun ρ => fb ρ) n ρ) := by
  intro σ H D fr ns w kk
  refine tSt_of (ps_while hp pt_self pss_self) ?_
  generalize hF : (fun (ρ : Env) => fb ρ) = F at ns w kk
  generalize hG : (fun (ρ : Env) => (fc ρ).bind asB) = G at ns w kk
  refine ⟨fun m σ' H' => ∃ ρ', whileM G F n ρ = whileM G F m ρ' ∧ Fr J X.K H0 B ρ' σ' H' ∧ Stp ρ σ H ρ' σ' H', ⟨n, ρ, rfl, fr, .refl⟩, ?_⟩
  rintro m σ2 H2 ⟨ρ2, el, f2, s2⟩
  cases m with
  | zero => rw [el] at ns; exact absurd rfl ns
  | succ m =>
    have el2 : whileM G F n ρ = (G ρ2).bind fun b => if b then (F ρ2).bind (afterO (whileM G F m)) else .ok (.nx ρ2) := by
      rw [el]
      show (G ρ2).bind _ = _
      congr 1
    rw [el2] at ns w
    have hc2 := hc ρ2
    have hGe : (fc ρ2).bind asB = G ρ2 := by rw [← hG]
    rw [hGe] at hc2
    refine hc2.useS f2 ns w fun t et H3 x3 f3 ns3 w3 => ?_
    rw [et] at el2
    cases t with
    | false => exact kk.nx ρ2 el2 _ _ f3 (s2.trans (Stp.ext x3))
    | true =>
      have el3 : whileM G F n ρ = (F ρ2).bind (afterO (whileM G F m)) := el2
      have ns3 : (F ρ2).bind (afterO (whileM G F m)) ≠ .stuck := ns3
      have w3 : WishS J exv W H0 ((F ρ2).bind (afterO (whileM G F m))) := w3
      have hFe : F ρ2 = fb ρ2 := by rw [← hF]
      rw [hFe] at el3 ns3 w3
      have s3 := s2.trans (Stp.ext x3)
      refine ⟨fun σ' H' => ∃ ρ', whileM G F n ρ = whileM G F m ρ' ∧ Fr J X.K H0 B ρ' σ' H' ∧ Stp ρ σ H ρ' σ' H', fun σ' H' h => ⟨m, by omega, h⟩, ?_⟩
      refine hb ρ2 σ2 H3 _ f3 (bind_ns ns3) w3.left ⟨fun ρ5 h σ5 H5 f5 s5 => ?_, fun d h v H5 x5 q5 => ?_, fun ρ5 h σ5 H5 f5 s5 => ?_, fun ρ5 h σ5 H5 f5 s5 => ?_⟩
      · exact ⟨ρ5, by rw [el3, h]; rfl, f5, s3.trans s5⟩
      · exact kk.rt d (by rw [el3, h]; rfl) v H5 x5 q5
      · exact kk.nx ρ5 (by rw [el3, h]; rfl) σ5 H5 f5 (s3.trans s5)
      · exact ⟨ρ5, by rw [el3, h]; rfl, f5, s3.trans s5⟩
end
end PyV
namespace PyV
open PySem L2
section
variable {X : Cx} {J : Hp → Prop} {exv : Str → Option Addr} {k : Nat} {W : WX} {N : List Str} {sc : Scope} {nm : List Str} {S : Sig} {H0 : Hp} {B : Addr → Prop}
theorem setPS (C : Cok X J exv k W N sc nm S) {x : Str} {i : Nat} {px pos : Pos} {e : Expr} (hi : N[i]? = some x) (hx : setB sc x = true) (oe : okE e = true) (hl : swapsWith e (some (.Name x px)) pos.line X.env = pure false) :
    ∀ t, PE X e t → PS X (.Assign [.Name x px] e pos) (tAsg t (gName i)) := fun t h =>
  ps_set (i := i) (by rw [C.hN]; exact C.nd) (by rw [C.hN]; exact hi) (loc_of C (setB_loc hx)) h hl (C.fnok x hx)
theorem isLc_lce {t : IE} {e : Expr} (h : chkE N sc nm t e = true) (h2 : isLCE e = true) : isLc t = true := by
  cases e <;> first | (cases h2; done) | (cases t <;> first | rfl | (rw [chkE.eq_def] at h; cases h; done))
theorem tup_i {t : IE} {e : Expr} (h : chkE N sc nm t e = true) (h2 : isTupI t = false) : ∀ a b c, e ≠ .Tuple a b c := by
  intro a b c z
  subst z
  cases t <;> first | (cases h2; done) | (rw [chkE.eq_def] at h; cases h; done)
theorem sw_lc (C : Cok X J exv k W N sc nm S) {elt : Expr} {gs : List Comprehension} {scope : Scope} {p px pos : Pos} {x : Str} (hx : onlyLoc sc x = true) (hl : (px.line == p.line) = true) (hn : (!(scope.names.any fun (n, k) => n == x && (k == .local || k == .cell))) = true) (hk : (X.env.blockKind == .function) = true) :
    swapsWith (.ListComp elt gs scope p) (some (.Name x px)) pos.line X.env = pure true := by
  have h1 := only_of C hx
  unfold swapsWith
  show (pure (X.env.blockKind == .function && X.env.kindOf x == some .local && px.line == p.line && !(scope.names.any fun (n, k) => n == x && (k == .local || k == .cell))) : Sem Bool) = pure true
  have h2 : (X.env.kindOf x == some .local) = true := by
    unfold Env.kindOf
    rw [h1]
    rfl
  rw [hk, h2, hl, hn]
  rfl
theorem sw_no (C : Cok X J exv k W N sc nm S) {elt : Expr} {gs : List Comprehension} {scope : Scope} {p px pos : Pos} {x : Str} (hx : onlyLoc sc x = false) :
    swapsWith (.ListComp elt gs scope p) (some (.Name x px)) pos.line X.env = pure false := by
  unfold swapsWith
  show (pure (X.env.blockKind == .function && X.env.kindOf x == some .local && px.line == p.line && !(scope.names.any fun (n, k) => n == x && (k == .local || k == .cell))) : Sem Bool) = pure false
  have h2 : (X.env.kindOf x == some .local) = false := by
    unfold Env.kindOf
    rw [C.hsc]
    unfold onlyLoc at hx
    split at hx
    · cases hx
    · rename_i hh
      cases e : sc.names.lookup x with
      | none => rfl
      | some kd => cases kd <;> first | rfl | exact (hh e).elim
  rw [h2]
  cases (X.env.blockKind == .function) <;> rfl
theorem js_lc (C : Cok X J exv k W N sc nm S) {ρ : PyV.Env} {i : Nat} {y : Str} {mu : Bool} {py spos pos : Pos} {elt tg iter : Expr} {ifs : List Expr} {scope : Scope} {ts : List Nat} {r : M R} (hy : N[i]? = some y) (hyl : onlyLoc sc y = true)
    (hsw : swapsWith (.ListComp elt [⟨tg, iter, ifs, 0⟩] scope pos) (some (.Name y py)) spos.line X.env = pure true) (oi : okE iter = true) (ok : blkC N sc scope (ownOf N ts) = true)
    (h : ∃ (tt : TT) (te : TE), (∀ s H Cc cl fp, PTs (X.blk s H scope (compEnvC scope cl Cc X.env) fp) ifs tt) ∧ (∀ s H Cc cl fp, PE (X.blk s H scope (compEnvC scope cl Cc X.env) fp) elt te) ∧ (∀ s H Cc cl fp, PG (X.blk s H scope (compEnvC scope cl Cc X.env) fp) tg (tgG X.K ts)) ∧
      ∀ σ H Q, Fr J X.K H0 B ρ σ H → r ≠ .stuck → Wish J exv W σ H r → (∀ k d, r = .ok (k, d) → ∀ v H', Ext J H H' → ResOk X.K H0 B ρ σ H H' k d v → Q v H') → tLc (tIt X tg iter) (tgG X.K ts) tt te ((ownOf N ts).map (·.2)) σ H Q) :
    JS X J exv W H0 B (.Assign [.Name y py] (.ListComp elt [⟨tg, iter, ifs, 0⟩] scope pos) spos) ρ (r.bind fun r => (entR mu r).bind fun t => .ok (.nx (ρ.set i t))) := by
  obtain ⟨tt, te, h1, h2, h3, h4⟩ := h
  intro σ H D fr ns w kk
  refine tSt_of (ps_setLc C.calm (by rw [C.hN]; exact C.nd) (by rw [C.hN]; exact hy) (only_of C hyl) hsw pi_self (blkOk_by (own := ownOf N ts) (by rw [C.hN, C.hsc]; exact ok)) h3 h1 h2 (fun x => fold_ok oi x)) ?_
  refine h4 σ H _ fr (bind_ns ns) (w.left.at fr) fun kd d e1 v H1 x1 q1 => ?_
  have ns1 := ns_on ns e1
  cases et : entR mu (kd, d) with
  | ok t =>
    obtain ⟨g1, g2⟩ := put_res (i := i) fr x1 q1 et
    exact kk.nx _ (by rw [e1]; show (entR mu (kd, d)).bind _ = _; rw [et]; rfl) _ _ g1 g2
  | stuck => simp only [et] at ns1; exact absurd rfl ns1
  | ex c => cases kd <;> cases et
theorem forIf_ok {tg it c e : Expr} {p1 p2 p3 : Pos} : True := trivial
theorem Cok.nox (C : Cok X J exv k W N sc nm S) : Cok X.nox J exv k (fun _ _ _ _ => False) N sc nm S where
  hN := C.hN
  nd := C.nd
  hsc := C.hsc
  fnok := C.fnok
  calm := C.calm
  room := C.room
  jk := C.jk
  blt := C.blt
  fns := fun f x h => by
    obtain ⟨a, fd, ps, F⟩ := C.fns f x h
    exact ⟨a, fd, ps, F.mg, F.kp, F.bi, F.ok⟩
  tk := takes0
  exs := C.exs
  glo := C.glo
  clo := C.clo
/-- a try whose suite lets nothing out -/
theorem js_tryT {ρ : PyV.Env} {body : List Stmt} {h0 : ExceptHandler} {hs : List ExceptHandler} {pos : Pos} {r : M Out} (h : JSs X.nox J exv (fun _ _ _ _ => False) H0 B body ρ r) : JS X J exv W H0 B (.Try body (h0 :: hs) [] [] pos) ρ (noEx r) := by
  intro σ H D fr ns w kk
  obtain ⟨o, eo⟩ := noEx_ok ns
  subst eo
  exact tSt_of (ps_try_thru0 pss_self) (h σ H D fr (fun z => nomatch z) (fun c z => nomatch z) ⟨kk.nx, kk.rt, kk.bk, kk.ct⟩)
mutual
theorem s_S (t : IS) : ∀ {X : Cx} {W : WX} {st : Stmt} {ρ : PyV.Env}, PassesOwn (model X.prog X.w) X.A X.env X.xe → (X.env.blockKind == .function) = true → Cok X J exv k W N sc nm S → chkS N sc nm t st = true → JS X J exv W H0 B st ρ (evS S t ρ) := by
  intro X W st ρ hp hk C h
  match t with
  | .set i mu te =>
    rw [chkS.eq_def] at h
    dsimp only at h
    split at h
    · rename_i x px e p
      obtain ⟨h, h4⟩ := Bool.and_eq_true_iff.mp h
      obtain ⟨h, h3⟩ := Bool.and_eq_true_iff.mp h
      obtain ⟨h1, h2⟩ := Bool.and_eq_true_iff.mp h
      have hi := of_decide_eq_true h1
      rw [evS]
      split
      · rename_i j hj
        cases te with
        | v j' =>
          cases hj
          rw [chkE.eq_def] at h3
          dsimp only at h3
          split at h3
          · exact js_alias C hi h2 h3
          · cases h3
        | _ => cases hj
      · cases hl : isLCE e with
        | false => exact js_set C hi h2 (s_E te C h3).1 (setPS C hi h2 (chk_ok h3) (swap_ok (chk_ok h3) hl))
        | true =>
          have hlc := isLc_lce h3 hl
          cases hol : onlyLoc sc x with
          | false =>
            refine js_set C hi h2 (s_E te C h3).1 (setPS C hi h2 (chk_ok h3) ?_)
            cases e <;> first | (cases hl; done) | exact sw_no C hol
          | true =>
          rw [hlc, hol] at h4
          cases te with
          | lc elt ts it cd =>
            rw [chkE.eq_def] at h3
            dsimp only at h3
            split at h3
            · rename_i eelt tg iter ifs scope p' _hh
              obtain ⟨q1, q2⟩ := Bool.and_eq_true_iff.mp (show ((px.line == p'.line) && !(scope.names.any fun (n, k) => n == x && (k == .local || k == .cell))) = true from h4)
              obtain ⟨h3, g5⟩ := Bool.and_eq_true_iff.mp h3
              obtain ⟨h3, g4⟩ := Bool.and_eq_true_iff.mp h3
              obtain ⟨h3, g3⟩ := Bool.and_eq_true_iff.mp h3
              obtain ⟨h3, g2⟩ := Bool.and_eq_true_iff.mp h3
              obtain ⟨h0, g1⟩ := Bool.and_eq_true_iff.mp h3
              obtain ⟨tt, te, z1, z2, z3, z4⟩ := lc_all C h0 (ifs := ifs) (H0 := H0) (B := B) (ρ := ρ) (fc := fun ρ' => if isNo cd then .ok true else (evE S cd ρ').bind asB) (fe := fun ρ' => evE S elt ρ') (s_It it C g3) (chkIt_ok g3) g1 g2 (fun s H Cc cl fp B ρ => (s_E elt (C.blk s H _ Cc cl fp h0) g4).1) (by
                cases ifs with
                | nil => exact .inl ⟨rfl, fun ρ => by rw [if_pos g5]⟩
                | cons c0 ifs =>
                cases ifs with
                | cons => cases g5
                | nil =>
                  obtain ⟨h6, h7⟩ := Bool.and_eq_true_iff.mp g5
                  refine .inr ⟨_, rfl, fun s H Cc cl fp B ρ => ?_⟩
                  rw [if_neg (by simpa using h6)]
                  exact (s_E cd (C.blk s H _ Cc cl fp h0) h7).2)
              exact js_lc C hi hol (sw_lc C hol q1 q2 hk) (chkIt_ok g3) g1 ⟨tt, te, z1, z2, z3, fun σ H Q => z4 _ (by rw [evE]) σ H Q⟩
            · cases h3
          | _ => cases hlc
    · cases h
  | .unp is te =>
    rw [chkS.eq_def] at h
    dsimp only at h
    split at h
    · obtain ⟨h, h5⟩ := Bool.and_eq_true_iff.mp h
      obtain ⟨h, h4⟩ := Bool.and_eq_true_iff.mp h
      obtain ⟨h, h3⟩ := Bool.and_eq_true_iff.mp h
      obtain ⟨h1, h2⟩ := Bool.and_eq_true_iff.mp h
      rw [evS]
      exact js_unp C h4 (chk_lc h3 (by simpa using h1)) (chk_ok h3) (tup_i h3 (by simpa using h2)) (s_E te C h3).1
    · cases h
  | .app i te =>
    rw [chkS.eq_def] at h
    dsimp only at h
    split at h
    · obtain ⟨h, h4⟩ := Bool.and_eq_true_iff.mp h
      obtain ⟨h, h3⟩ := Bool.and_eq_true_iff.mp h
      obtain ⟨h1, h2⟩ := Bool.and_eq_true_iff.mp h
      obtain rfl := of_decide_eq_true h1
      rw [evS]
      exact js_app C h2 (chk_ok h3) h4 (s_E te C h3).1
    · cases h
  | .sub i tk te =>
    rw [chkS.eq_def] at h
    dsimp only at h
    split at h
    · obtain ⟨h, h4⟩ := Bool.and_eq_true_iff.mp h
      obtain ⟨h, h3⟩ := Bool.and_eq_true_iff.mp h
      obtain ⟨h1, h2⟩ := Bool.and_eq_true_iff.mp h
      rw [evS]
      exact js_sub C h1 (chk_ok h3) (chk_lc h3 (by simpa using h4)) (chk_ok h2) (s_E te C h3).1 (s_E tk C h2).1
    · cases h
  | .clr i =>
    rw [chkS.eq_def] at h
    dsimp only at h
    split at h
    · obtain ⟨h, h4⟩ := Bool.and_eq_true_iff.mp h
      obtain ⟨h1, h2⟩ := Bool.and_eq_true_iff.mp h
      obtain rfl := of_decide_eq_true h1
      rw [evS]
      exact js_clr C h2 h4
    · cases h
  | .exp te =>
    rw [chkS.eq_def] at h
    dsimp only at h
    split at h
    · obtain ⟨h1, h2⟩ := Bool.and_eq_true_iff.mp h
      rw [evS]
      exact js_exp (chk_lc h1 (by simpa using h2)) (chk_ok h1) (s_E te C h1).1
    · cases h
  | .ret te =>
    rw [chkS.eq_def] at h
    dsimp only at h
    split at h
    · rw [evS]; exact js_ret (s_E te C h).1
    · cases h
  | .retN =>
    rw [chkS.eq_def] at h
    dsimp only at h
    split at h
    · rw [evS]; exact js_retN
    · cases h
  | .iff tc ta tb =>
    rw [chkS.eq_def] at h
    dsimp only at h
    split at h
    · obtain ⟨h, h3⟩ := Bool.and_eq_true_iff.mp h
      obtain ⟨h1, h2⟩ := Bool.and_eq_true_iff.mp h
      rw [evS]
      exact js_if (s_E tc C h1).2 (s_Ss ta hp hk C h2) (s_Ss tb hp hk C h3)
    · cases h
  | .forr ts it body =>
    rw [chkS.eq_def] at h
    dsimp only at h
    split at h
    · obtain ⟨h, h3⟩ := Bool.and_eq_true_iff.mp h
      obtain ⟨h1, h2⟩ := Bool.and_eq_true_iff.mp h
      rw [evS]
      exact js_for C hp (s_It it C h2) (chkIt_ok h2) h1 fun ρ => s_Ss body hp hk C h3
    · cases h
  | .forIf ts it tc te =>
    rw [chkS.eq_def] at h
    dsimp only at h
    split at h
    · obtain ⟨h, h4⟩ := Bool.and_eq_true_iff.mp h
      obtain ⟨h, h3⟩ := Bool.and_eq_true_iff.mp h
      obtain ⟨h1, h2⟩ := Bool.and_eq_true_iff.mp h
      rw [evS]
      exact js_forIf C hp (s_It it C h2) (chkIt_ok h2) h1 (fun ρ => (s_E tc C h3).2) fun ρ => (s_E te C h4).1
    · cases h
  | .whl n tc body =>
    rw [chkS.eq_def] at h
    dsimp only at h
    split at h
    · obtain ⟨h1, h2⟩ := Bool.and_eq_true_iff.mp h
      rw [evS]
      exact js_whl C hp (fun ρ => (s_E tc C h1).2) fun ρ => s_Ss body hp hk C h2
    · cases h
  | .rai c =>
    rw [chkS.eq_def] at h
    dsimp only at h
    split at h
    · obtain ⟨h1, h2⟩ := Bool.and_eq_true_iff.mp h
      obtain rfl := of_decide_eq_true h1
      rw [evS]
      exact js_rai C h2
    · cases h
  | .tryT body =>
    rw [chkS.eq_def] at h
    dsimp only at h
    split at h
    · rw [evS]
      exact js_tryT (s_Ss body (X := X.nox) (W := fun _ _ _ _ => False) PassesOwn.never hk C.nox h)
    · cases h
  | .pas =>
    rw [chkS.eq_def] at h
    dsimp only at h
    split at h
    · rw [evS]; exact js_pass
    · cases h
  | .brk =>
    rw [chkS.eq_def] at h
    dsimp only at h
    split at h
    · rw [evS]; exact js_brk
    · cases h
  | .cnt =>
    rw [chkS.eq_def] at h
    dsimp only at h
    split at h
    · rw [evS]; exact js_cnt
    · cases h
termination_by structural t
theorem s_Ss (t : ISs) : ∀ {X : Cx} {W : WX} {ss : List Stmt} {ρ : PyV.Env}, PassesOwn (model X.prog X.w) X.A X.env X.xe → (X.env.blockKind == .function) = true → Cok X J exv k W N sc nm S → chkSs N sc nm t ss = true → JSs X J exv W H0 B ss ρ (evSs S t ρ) := by
  intro X W ss ρ hp hk C h
  match t with
  | .nil =>
    rw [chkSs.eq_def] at h
    dsimp only at h
    cases ss with
    | nil => rw [evSs]; exact jss_nil
    | cons => cases h
  | .cons t ts =>
    rw [chkSs.eq_def] at h
    dsimp only at h
    split at h
    · obtain ⟨h1, h2⟩ := Bool.and_eq_true_iff.mp h
      have q := jss_cons (s_S t hp hk C h1 (ρ := ρ)) (f := fun ρ' => evSs S ts ρ') fun ρ' => s_Ss ts hp hk C h2
      rw [evSs]
      refine cast ?_ q
      congr 2
    · cases h
termination_by structural t
end
end
end PyV
namespace PyV
open PySem L2
/-! ### every def keeps its promise -/
/-- the def of that number, as it stands behind the top -/
structure DefAt (P : Program) (w : World) (K : PySem.W.Frag) (mg : Str → Option Value) (nm : List Str) (T : Nat → Option Fn) (f : Nat) (x : Str) (a : Addr) (fd : FuncData) (ps : List Str) : Prop where
  mg : mg x = some (.ref a)
  bi : Binds K fd ps []
  ex : ∃ (N : List Str) (qual : Str) (params : Arguments) (body : List Stmt) (scope : Scope) (fn : Fn), FunD K x qual params body scope [] [] a fd ∧ FnScope N ps scope ∧ T f = some fn ∧ fn.par = ps.length ∧ fn.slots = N.length ∧ chkSs N scope nm fn.body body = true
section
variable {P : Program} {w : World} {K : PySem.W.Frag} {mg : Str → Option Value} {base : Heap} {J : Hp → Prop} {exv : Str → Option Addr} {nm : List Str} {T : Nat → Option Fn} {G : Str → Option D} {Z : Str → Bool}
theorem env0_get {slots : Nat} {ds : List D} {i : Nat} {t : Tg} {d : D} (h : (env0 slots ds)[i]? = some (some (t, d))) : t = .old ∧ ds[i]? = some d := by
  unfold env0 at h
  rw [List.getElem?_append] at h
  split at h
  · rw [List.getElem?_map] at h
    cases e : ds[i]? with
    | none => rw [e] at h; cases h
    | some d' => rw [e] at h; cases h; exact ⟨rfl, rfl⟩
  · rw [List.getElem?_replicate] at h
    split at h <;> cases h
theorem start_get {N : List Str} {vs : List V} {i : Nat} {v : V} (h : vs[i]? = some v) : (L2.start N vs)[i]? = some (some v) := by
  unfold L2.start
  have hi : i < vs.length := (List.getElem?_eq_some_iff.mp h).1
  rw [List.getElem?_append_left (by simpa using hi), List.getElem?_map, h]
  rfl
theorem fr_start {N : List Str} {H : Hp} {ds : List D} {vs : List V} {slots : Nat} (hj : J H) (r : Reps K H (fun _ => True) ds vs) (hs : slots = N.length) : Fr J K H (fun _ => False) (env0 slots ds) (L2.start N vs) H where
  len := by
    unfold env0 L2.start
    rw [List.length_append, List.length_append, List.length_map, List.length_map, List.length_replicate, List.length_replicate, hs, r.length]
  j := hj
  ext := .refl H
  hid := fun _ z => z.elim
  at_ := fun i t d h => by
    obtain ⟨rfl, hd⟩ := env0_get h
    obtain ⟨v, hv, rv⟩ := r.get hd
    refine ⟨v, start_get hv, ?_⟩
    show Rep K H _ d v
    refine rv.sub fun a _ _ => ⟨fun o => ?_, fun z => z.elim, fun z => by cases z⟩
    obtain ⟨j, d', h1, _⟩ := o
    cases (env0_get h1).1
  dis := fun i j a d d' h1 _ _ _ => by cases (env0_get h1).1
theorem run_clo (h : T cloN = none) : ∀ (k : Nat) (ds : List D), run T G Z k cloN ds = .stuck
  | 0, _ => rfl
  | k + 1, ds => by
    show (match T cloN with
      | some fn => runB ⟨run T G Z k, G, Z⟩ fn ds
      | none => .stuck) = _
    rw [h]
theorem fn_ok (jk : JOk J) (blt : ∀ x ∈ builtinNames, mg x = none) (exs : ∀ c, Z c = true → ∃ C, exv c = some C ∧ RaiseAt K mg c C) (glo : ∀ x d, G x = some d → ∀ (H : Hp) (N : Addr → Prop), ∃ v u, mg x = some u ∧ RelV v u ∧ Rep K H N d v) (hclo : T cloN = none)
    (defs : ∀ (f : Nat) (x : Str), nm[f]? = some x → ∃ a fd ps, DefAt P w K mg nm T f x a fd ps) :
    ∀ (k f : Nat) (x : Str) (a : Addr) (fd : FuncData) (ps : List Str), DefAt P w K mg nm T f x a fd ps → FnOk P w K mg base (L2.CX P w) k a fd ps (spM J K exv (run T G Z k f)) := by
  intro k
  induction k with
  | zero =>
    intro f x a fd ps F
    exact ⟨fun vs H Q E h => by obtain ⟨ds, _, _, z⟩ := h; exact z.elim, fun A outer s H args us vs Q E _ _ _ _ h => by obtain ⟨ds, _, _, z⟩ := h; exact z.elim⟩
  | succ k ih =>
    intro f x a fd ps F
    obtain ⟨N, qual, params, body, scope, fn, FD, S, hT, hpar, hsl, hchk⟩ := F.ex
    have hrun : ∀ ds, run T G Z (k + 1) f ds = guard' (ds.length = fn.par) ((evSs ⟨run T G Z k, G, Z⟩ fn.body (env0 fn.slots ds)).bind outD) := fun ds => by
      show (match T f with
        | some fn => runB ⟨run T G Z k, G, Z⟩ fn ds
        | none => .stuck) = _
      rw [hT]
      rfl
    refine FD.ok S (fun vs H Q E h => ?_) fun cdv A outer s H vs Q E hr h => ⟨_, pss_self, ?_⟩
    · obtain ⟨ds, _, r, z⟩ := h
      rw [hrun] at z
      have ns : guard' (ds.length = fn.par) ((evSs ⟨run T G Z k, G, Z⟩ fn.body (env0 fn.slots ds)).bind outD) ≠ .stuck := fun e => by rw [e] at z; exact z
      rw [← r.length, (guard_ns' ns).1, hpar]
    · obtain ⟨ds, hj, r, z⟩ := h
      rw [hrun] at z
      have ns : guard' (ds.length = fn.par) ((evSs ⟨run T G Z k, G, Z⟩ fn.body (env0 fn.slots ds)).bind outD) ≠ .stuck := fun e => by rw [e] at z; exact z
      obtain ⟨_, ge, gn⟩ := guard_ns' ns
      rw [ge] at z
      refine s_Ss fn.body (X := cxOf (L2.CX P w) P w K mg base N qual scope a cdv A outer s H E) (J := J) (exv := exv) (k := k) (W := fun cls d _ H => E cls d H) (N := N) (sc := scope) (nm := nm) (S := ⟨run T G Z k, G, Z⟩) (H0 := H) (B := fun _ => False) (passes_of rfl) (by show ((if scope.kind.isAnnotationScope then ScopeKind.function else scope.kind) == .function) = true; rw [S.kind]; rfl) ?_ hchk (L2.start N vs) H _ (fr_start hj r hsl) (bind_ns gn) ?_ ?_
      · exact {
          hN := rfl
          nd := S.nd
          hsc := rfl
          fnok := fun _ _ => .inl rfl
          calm := rfl
          room := hr
          jk := jk
          blt := blt
          fns := fun f' x' hx => by
            obtain ⟨a', fd', ps', F'⟩ := defs f' x' hx
            obtain ⟨_, _, _, _, _, _, FD', _⟩ := F'.ex
            exact ⟨a', fd', ps', F'.mg, FD'.kp, F'.bi, ih f' x' a' fd' ps' F'⟩
          tk := takes_of rfl rfl rfl rfl
          exs := exs
          glo := glo
          clo := fun _ v ds z => absurd (run_clo hclo k _) z }
      · intro c hc C σ' H' hC x2
        rw [hc] at z
        exact z C H' hC x2
      · refine ⟨fun ρ' h σ' H' f' s' => ?_, fun d h v H' x2 q => ?_, fun ρ' h σ' H' f' s' => ?_, fun ρ' h σ' H' f' s' => ?_⟩
        · rw [h] at z
          exact z .non H' f'.ext .non
        · rw [h] at z
          exact z v H' x2 q
        · rw [h] at z; exact z.elim
        · rw [h] at z; exact z.elim
/-- the law's promise: a value -/
def spL (J : Hp → Prop) (K : PySem.W.Frag) (g : List D → M D) : Sp := fun vs H Q _ => ∃ ds, J H ∧ Reps K H (fun _ => True) ds vs ∧ match g ds with
  | .ok d => ∀ v H', Ext J H H' → Rep K H' (fun a => H a = none) d v → Q v H'
  | _ => False
/-- the law's own def: nothing is let out -/
theorem law_fn (jk : JOk J) (blt : ∀ x ∈ builtinNames, mg x = none) (exs : ∀ c, Z c = true → ∃ C, exv c = some C ∧ RaiseAt K mg c C) (glo : ∀ x d, G x = some d → ∀ (H : Hp) (N : Addr → Prop), ∃ v u, mg x = some u ∧ RelV v u ∧ Rep K H N d v) (hclo : T cloN = none)
    (defs : ∀ (f : Nat) (x : Str), nm[f]? = some x → ∃ a fd ps, DefAt P w K mg nm T f x a fd ps) (k f : Nat) (x : Str) (a : Addr) (fd : FuncData) (ps : List Str) (F : DefAt P w K mg nm T f x a fd ps) :
    FnOk P w K mg base L2.CX0 (k + 1) a fd ps (spL J K (run T G Z (k + 1) f)) := by
  obtain ⟨N, qual, params, body, scope, fn, FD, S, hT, hpar, hsl, hchk⟩ := F.ex
  have hrun : ∀ ds, run T G Z (k + 1) f ds = guard' (ds.length = fn.par) ((evSs ⟨run T G Z k, G, Z⟩ fn.body (env0 fn.slots ds)).bind outD) := fun ds => by
    show (match T f with
      | some fn => runB ⟨run T G Z k, G, Z⟩ fn ds
      | none => .stuck) = _
    rw [hT]
    rfl
  refine FD.ok S (fun vs H Q E h => ?_) fun cdv A outer s H vs Q E hr h => ⟨_, pss_self, ?_⟩
  · obtain ⟨ds, _, r, z⟩ := h
    rw [hrun] at z
    have ns : guard' (ds.length = fn.par) ((evSs ⟨run T G Z k, G, Z⟩ fn.body (env0 fn.slots ds)).bind outD) ≠ .stuck := fun e => by rw [e] at z; exact z
    rw [← r.length, (guard_ns' ns).1, hpar]
  · obtain ⟨ds, hj, r, z⟩ := h
    rw [hrun] at z
    have ns : guard' (ds.length = fn.par) ((evSs ⟨run T G Z k, G, Z⟩ fn.body (env0 fn.slots ds)).bind outD) ≠ .stuck := fun e => by rw [e] at z; exact z
    obtain ⟨_, ge, gn⟩ := guard_ns' ns
    rw [ge] at z
    refine s_Ss fn.body (X := cxOf L2.CX0 P w K mg base N qual scope a cdv A outer s H E) (J := J) (exv := exv) (k := k) (W := fun _ _ _ _ => False) (N := N) (sc := scope) (nm := nm) (S := ⟨run T G Z k, G, Z⟩) (H0 := H) (B := fun _ => False) (passes_of rfl) (by show ((if scope.kind.isAnnotationScope then ScopeKind.function else scope.kind) == .function) = true; rw [S.kind]; rfl) ?_ hchk (L2.start N vs) H _ (fr_start hj r hsl) (bind_ns gn) ?_ ?_
    · exact {
        hN := rfl
        nd := S.nd
        hsc := rfl
        fnok := fun _ _ => .inl rfl
        calm := rfl
        room := hr
        jk := jk
        blt := blt
        fns := fun f' x' hx => by
          obtain ⟨a', fd', ps', F'⟩ := defs f' x' hx
          obtain ⟨_, _, _, _, _, _, FD', _⟩ := F'.ex
          exact ⟨a', fd', ps', F'.mg, FD'.kp, F'.bi, fn_ok jk blt exs glo hclo defs k f' x' a' fd' ps' F'⟩
        tk := takes0
        exs := exs
        glo := glo
        clo := fun _ v ds z => absurd (run_clo hclo k _) z }
    · intro c hc C σ' H' hC x2
      rw [hc] at z
      exact z
    · refine ⟨fun ρ' h σ' H' f' s' => ?_, fun d h v H' x2 q => ?_, fun ρ' h σ' H' f' s' => ?_, fun ρ' h σ' H' f' s' => ?_⟩
      · rw [h] at z
        exact z .non H' f'.ext .non
      · rw [h] at z
        exact z v H' x2 q
      · rw [h] at z; exact z.elim
      · rw [h] at z; exact z.elim
end
/-! ### the law -/
theorem rep_ints {K : PySem.W.Frag} {H : Hp} {P : Addr → Prop} : ∀ ns : List Int, Reps K H P (ns.map D.int) (ns.map V.int)
  | [] => .nil
  | n :: ns => .cons (.int n) (rep_ints ns)
theorem law_sp {K : PySem.W.Frag} {J : Hp → Prop} {g : List D → M D} {H : Hp} {a : Addr} {ns : List Int} (hJ : J H) (ho : Only H) (hs : SqL K H a (ns.map V.int)) (hg : g [.frz (ns.map D.int)] = .ok (.bl true)) :
    spL J K g [.ref a] H (fun v _ => v = .bl true) fun _ _ _ => False := by
  refine ⟨_, hJ, .cons (.frz ?_ (rep_ints ns)) .nil, ?_⟩
  · rcases hs with (h | ⟨o, h⟩) | h
    · rcases ho a with z | ⟨o, xs, z⟩
      · rw [z] at h; cases h
      · rw [z] at h; cases h
    · exact .inl ⟨o, h⟩
    · exact .inr h
  · rw [hg]
    intro v H' _ r
    cases r
    rfl
theorem veFacts : ExcBaseFacts "ValueError" "ValueError.__new__" "ValueError.__init__" He.veBase := PySem.F.excBase_ValueError
theorem jok_true : JOk (fun _ => True) := ⟨fun _ _ _ _ _ => trivial, fun _ _ _ _ _ _ => trivial, fun _ _ _ _ _ _ => trivial⟩
end PyV
namespace PyV
open PySem L2
/-! ### plain laws of the machine -/
section
variable {α β : Type}
theorem bind_ok (a : α) (f : α → M β) : M.bind (.ok a) f = f a := rfl
theorem bind_ex (c : Str) (f : α → M β) : M.bind (.ex c) f = .ex c := rfl
theorem guard_t {p : Prop} [Decidable p] {x : M α} (h : p) : guard' p x = x := if_pos h
theorem d_add (a b : Int) : dBin .Add (.int a) (.int b) = .ok (.int (a + b)) := rfl
theorem d_sub (a b : Int) : dBin .Sub (.int a) (.int b) = .ok (.int (a - b)) := rfl
theorem d_mul {a b : Int} (h : -18446744073709551616 < b ∧ b < 18446744073709551616) : dBin .Mult (.int a) (.int b) = .ok (.int (a * b)) := if_pos (.inr h)
theorem d_mull {a b : Int} (h : -18446744073709551616 < a ∧ a < 18446744073709551616) : dBin .Mult (.int a) (.int b) = .ok (.int (a * b)) := if_pos (.inl h)
theorem d_div {a b : Int} (h : 0 < b ∧ b < 1073741824) : dBin .FloorDiv (.int a) (.int b) = .ok (.int (a / b)) := if_pos h
theorem d_mod {a b : Int} (h : 0 < b) : dBin .Mod (.int a) (.int b) = .ok (.int (a % b)) := if_pos h
theorem d_cat {a b : List D} (h : a.length + b.length ≤ 1000000) : dBin .Add (.lst a) (.lst b) = .ok (.lst (a ++ b)) := if_pos h
theorem d_catT {a b : List D} (h : a.length + b.length ≤ 1000000) : dBin .Add (.tup a) (.tup b) = .ok (.tup (a ++ b)) := if_pos h
theorem eqO_int (a : Int) : eqOk (.int a) = true := rfl
theorem eqO_bl (a : Bool) : eqOk (.bl a) = true := rfl
theorem eqO_non : eqOk .non = true := rfl
/-- data that == may look at, nested at most so deep -/
def Nice : Nat → D → Prop
  | _, .int _ => True
  | _, .bl _ => True
  | _, .non => True
  | _, .str x => eqOk (.str x) = true
  | n + 1, .lst xs => ∀ x ∈ xs, Nice n x
  | n + 1, .tup xs => ∀ x ∈ xs, Nice n x
  | n + 1, .frz xs => ∀ x ∈ xs, Nice n x
  | _, _ => False
theorem nice_all {n : Nat} (ih : ∀ d, Nice n d → pyOk d = true ∧ (py d).canLay0 = true ∧ (py d).depth ≤ n) : ∀ {xs : List D}, (∀ x ∈ xs, Nice n x) → pyOkL xs = true ∧ PyData.canLayAll0 (pyL xs) = true ∧ PyData.depthAll (pyL xs) ≤ n
  | [], _ => ⟨rfl, rfl, Nat.zero_le _⟩
  | x :: xs, h => by
    obtain ⟨h1, h2, h3⟩ := ih x (h x List.mem_cons_self)
    obtain ⟨g1, g2, g3⟩ := nice_all ih (xs := xs) fun y hy => h y (List.mem_cons_of_mem _ hy)
    refine ⟨?_, ?_, ?_⟩
    · show (pyOk x && pyOkL xs) = true
      rw [h1, g1]; rfl
    · show PyData.canLayAll0 (py x :: pyL xs) = true
      unfold PyData.canLayAll0
      rw [h2, g2]; rfl
    · show PyData.depthAll (py x :: pyL xs) ≤ n
      unfold PyData.depthAll
      omega
theorem nice_ok : ∀ (n : Nat) (d : D), Nice n d → pyOk d = true ∧ (py d).canLay0 = true ∧ (py d).depth ≤ n := by
  intro n
  induction n with
  | zero =>
    intro d h
    cases d with
    | str x =>
      have h : eqOk (.str x) = true := h
      obtain ⟨h1, h2⟩ := Bool.and_eq_true_iff.mp (show (pyOk (.str x) && SeqAt.shaped (py (.str x))) = true from h)
      exact ⟨h1, (Bool.and_eq_true_iff.mp h2).1, Nat.le_of_eq (by simp [py, PyData.depth])⟩
    | int i => exact ⟨rfl, by simp [py, PyData.canLay0], by simp [py, PyData.depth]⟩
    | bl i => exact ⟨rfl, by simp [py, PyData.canLay0], by simp [py, PyData.depth]⟩
    | non => exact ⟨rfl, by simp [py, PyData.canLay0], by simp [py, PyData.depth]⟩
    | _ => exact h.elim
  | succ n ih =>
    intro d h
    cases d with
    | str x =>
      have h : eqOk (.str x) = true := h
      obtain ⟨h1, h2⟩ := Bool.and_eq_true_iff.mp (show (pyOk (.str x) && SeqAt.shaped (py (.str x))) = true from h)
      exact ⟨h1, (Bool.and_eq_true_iff.mp h2).1, by simp [py, PyData.depth]⟩
    | int i => exact ⟨rfl, by simp [py, PyData.canLay0], by simp [py, PyData.depth]⟩
    | bl i => exact ⟨rfl, by simp [py, PyData.canLay0], by simp [py, PyData.depth]⟩
    | non => exact ⟨rfl, by simp [py, PyData.canLay0], by simp [py, PyData.depth]⟩
    | lst xs =>
      obtain ⟨g1, g2, g3⟩ := nice_all ih (show ∀ x ∈ xs, Nice n x from h)
      exact ⟨g1, by simpa [py, PyData.canLay0] using g2, by simp [py, PyData.depth]; exact g3⟩
    | tup xs =>
      obtain ⟨g1, g2, g3⟩ := nice_all ih (show ∀ x ∈ xs, Nice n x from h)
      exact ⟨g1, by simpa [py, PyData.canLay0] using g2, by simp [py, PyData.depth]; exact g3⟩
    | frz xs =>
      obtain ⟨g1, g2, g3⟩ := nice_all ih (show ∀ x ∈ xs, Nice n x from h)
      exact ⟨g1, by simpa [py, PyData.canLay0] using g2, by simp [py, PyData.depth]; exact g3⟩
    | _ => exact h.elim
theorem Nice.ok {n : Nat} {d : D} (h : Nice n d) (hn : n ≤ 64 := by decide) : eqOk d = true := by
  obtain ⟨h1, h2, h3⟩ := nice_ok n d h
  show (pyOk d && SeqAt.shaped (py d)) = true
  rw [h1]
  show (PyData.canLay0 (py d) && decide (PyData.depth (py d) ≤ 64)) = true
  rw [h2]
  exact decide_eq_true (Nat.le_trans h3 hn)
theorem eqv_self {n : Nat} {d : D} (h : Nice n d) : PyData.eqv (py d) (py d) = true := SeqAt.eqv_refl _ (nice_ok n d h).2.1
theorem c_eq_self {n : Nat} {d : D} (h : Nice n d) (hn : n ≤ 64 := by decide) : dCmp .Eq d d = .ok (.bl true) := by
  have e : dCmp .Eq d d = guard' (eqOk d = true ∧ eqOk d = true) (.ok (.bl (PyData.eqv (py d) (py d)))) := by
    cases d <;> first | rfl | (cases n <;> exact h.elim)
  rw [e, guard_t ⟨h.ok hn, h.ok hn⟩, eqv_self h]
theorem c_ne_self {n : Nat} {d : D} (h : Nice n d) (hn : n ≤ 64 := by decide) : dCmp .NotEq d d = .ok (.bl false) := by
  have e : dCmp .NotEq d d = guard' (eqOk d = true ∧ eqOk d = true) (.ok (.bl (!PyData.eqv (py d) (py d)))) := by
    cases d <;> first | rfl | (cases n <;> exact h.elim)
  rw [e, guard_t ⟨h.ok hn, h.ok hn⟩, eqv_self h]
  rfl
theorem c_eqI (a b : Int) : dCmp .Eq (.int a) (.int b) = .ok (.bl (decide (a = b))) := by
  show guard' _ _ = _
  rw [guard_t ⟨eqO_int a, eqO_int b⟩]
  simp [py, PyData.eqv, BEq.beq]
theorem c_neI (a b : Int) : dCmp .NotEq (.int a) (.int b) = .ok (.bl (!decide (a = b))) := by
  show guard' _ _ = _
  rw [guard_t ⟨eqO_int a, eqO_int b⟩]
  simp [py, PyData.eqv, BEq.beq]
theorem c_eqS {a b : Str} (h : eqOk (.str a) = true) (h2 : eqOk (.str b) = true) : dCmp .Eq (.str a) (.str b) = .ok (.bl (a == b)) := by
  show guard' _ _ = _
  rw [guard_t ⟨h, h2⟩]
  simp [py, PyData.eqv]
theorem nice_ints (ns : List Int) : ∀ x ∈ ns.map D.int, Nice 0 x := fun x h => by
  obtain ⟨i, _, e⟩ := List.mem_map.mp h
  subst e
  trivial
theorem nice_lints (ns : List Int) : Nice 1 (.lst (ns.map D.int)) := nice_ints ns
theorem nice_tints (ns : List Int) : Nice 1 (.tup (ns.map D.int)) := nice_ints ns
theorem c_lt (a b : Int) : dCmp .Lt (.int a) (.int b) = .ok (.bl (decide (a < b))) := rfl
theorem c_le (a b : Int) : dCmp .LtE (.int a) (.int b) = .ok (.bl (decide (a ≤ b))) := rfl
theorem c_gt (a b : Int) : dCmp .Gt (.int a) (.int b) = .ok (.bl (decide (b < a))) := rfl
theorem c_ge (a b : Int) : dCmp .GtE (.int a) (.int b) = .ok (.bl (decide (b ≤ a))) := rfl
end
end PyV
namespace PyV
open PySem L2
section
variable (n : Bool)
theorem mk_lst (xs : List D) : mkR n (.lst xs) = (.top (n || pureL xs), .lst xs) := rfl
theorem mk_dct (xs : List (Key × D)) : mkR n (.dct xs) = (.top n, .dct xs) := rfl
theorem mk_tup (xs : List D) : mkR n (.tup xs) = (.pl n, .tup xs) := rfl
theorem mk_frz (xs : List D) : mkR n (.frz xs) = (.pl n, .frz xs) := rfl
theorem mk_int (i : Int) : mkR n (.int i) = (.pl true, .int i) := rfl
theorem mk_bl (i : Bool) : mkR n (.bl i) = (.pl true, .bl i) := rfl
theorem mk_str (i : Str) : mkR n (.str i) = (.pl true, .str i) := rfl
theorem mk_non : mkR n .non = (.pl true, .non) := rfl
theorem el_lst (xs : List D) : elR n (.lst xs) = (.pl n, .lst xs) := rfl
theorem el_dct (xs : List (Key × D)) : elR n (.dct xs) = (.pl n, .dct xs) := rfl
theorem el_tup (xs : List D) : elR n (.tup xs) = (.pl n, .tup xs) := rfl
theorem el_frz (xs : List D) : elR n (.frz xs) = (.pl n, .frz xs) := rfl
theorem el_int (i : Int) : elR n (.int i) = (.pl true, .int i) := rfl
theorem el_bl (i : Bool) : elR n (.bl i) = (.pl true, .bl i) := rfl
theorem el_str (i : Str) : elR n (.str i) = (.pl true, .str i) := rfl
theorem el_non : elR n .non = (.pl true, .non) := rfl
theorem new_own : Kd.new .own = true := rfl
theorem new_top : Kd.new (.top n) = n := rfl
theorem new_pl : Kd.new (.pl n) = n := rfl
theorem io_own : Kd.isOwn .own = true := rfl
theorem io_top : Kd.isOwn (.top n) = false := rfl
theorem io_pl : Kd.isOwn (.pl n) = false := rfl
theorem asB_bl (k : Kd) (b : Bool) : asB (k, .bl b) = .ok b := rfl
theorem asI_int (k : Kd) (b : Int) : asI (k, .int b) = .ok (some b) := rfl
theorem ent_top (mu : Bool) (d : D) : entR mu (.top n, d) = .ok (some (if (mu && (n || pureE d)) then .own else if n then .new else .old, d)) := rfl
theorem ent_pl (mu : Bool) (d : D) : entR mu (.pl n, d) = .ok (some (if n then .new else .old, d)) := rfl
theorem fr_own (d : D) : freshR (.own, d) = true := rfl
theorem fr_top (d : D) : freshR (.top n, d) = (n || pureD d) := rfl
theorem fr_pl (d : D) : freshR (.pl n, d) = (n || pureD d) := rfl
theorem pu_int (i : Int) : pureD (.int i) = true := rfl
theorem pu_bl (i : Bool) : pureD (.bl i) = true := rfl
theorem pu_str (i : Str) : pureD (.str i) = true := rfl
theorem pu_non : pureD .non = true := rfl
theorem pu_tup (xs : List D) : pureD (.tup xs) = pureL xs := rfl
theorem pu_lst (xs : List D) : pureD (.lst xs) = false := rfl
theorem pu_nil : pureL [] = true := rfl
theorem pu_cons (x : D) (xs : List D) : pureL (x :: xs) = (pureD x && pureL xs) := rfl
theorem pe_lst' (xs : List D) : pureE (.lst xs) = pureL xs := rfl
theorem no_nil : noOwn [] = true := rfl
theorem no_cons (r : R) (rs : List R) : noOwn (r :: rs) = (!r.1.isOwn && noOwn rs) := rfl
theorem al_nil : allNew [] = true := rfl
theorem al_cons (r : R) (rs : List R) : allNew (r :: rs) = (r.1.new && allNew rs) := rfl
theorem od_rt (d : D) : outD (.rt d) = .ok d := rfl
theorem od_nx (ρ : Env) : outD (.nx ρ) = .ok .non := rfl
theorem ofO_some {α : Type} (a : α) : ofO (some a) = .ok a := rfl
theorem isV_v (i : Nat) : isV (.v i) = some i := rfl
end
/-! ### lists of ints -/
def cell (ns : List Int) (k : Int) : Int := ns.getD k.toNat 0
theorem ix_lst {xs : List D} {i : Int} (h : 0 ≤ i ∧ i < xs.length) : dIx (.lst xs) (.int i) = ofO xs[i.toNat]? := by
  show ofO (atI xs i) = _
  unfold atI ixN
  rw [if_pos h.1, if_pos h.2]
  rfl
theorem sl_mid {n : Nat} {k : Int} (h : 0 ≤ k) (xs : List D) (hn : xs.length = n) : cutD xs (some k) (some (k + 1)) = (xs[k.toNat]?).toList := by
  have s1 : HT.sIx xs.length 0 (some k) = min k.toNat xs.length := if_neg (by omega)
  have s2 : HT.sIx xs.length xs.length (some (k + 1)) = min (k + 1).toNat xs.length := if_neg (by omega)
  unfold cutD
  rw [s1, s2]
  by_cases hk : k.toNat < xs.length
  · have e1 : min k.toNat xs.length = k.toNat := by omega
    have e2 : min (k + 1).toNat xs.length = k.toNat + 1 := by omega
    rw [e1, e2, Nat.add_sub_cancel_left]
    have e3 : List.drop k.toNat xs = xs[k.toNat] :: List.drop (k.toNat + 1) xs := List.drop_eq_getElem_cons hk
    rw [e3, List.getElem?_eq_getElem hk]
    rfl
  · have e1 : min k.toNat xs.length = xs.length := by omega
    rw [e1, List.drop_length]
    simp [List.getElem?_eq_none (by omega : xs.length ≤ k.toNat)]
theorem sl_frz (xs : List D) (l h : Option Int) : dSl (.frz xs) l h = .ok (.lst (cutD xs l h)) := rfl
theorem sl_lst (xs : List D) (l h : Option Int) : dSl (.lst xs) l h = .ok (.lst (cutD xs l h)) := rfl
theorem sl_tup (xs : List D) (l h : Option Int) : dSl (.tup xs) l h = .ok (.tup (cutD xs l h)) := rfl
theorem cut_len (xs : List D) (l h : Option Int) : (cutD xs l h).length ≤ xs.length := by
  unfold cutD
  rw [List.length_take, List.length_drop]
  omega
theorem cell_at (ns : List Int) {k : Int} (h : 0 ≤ k) : dIx (.lst (cutD (ns.map D.int) (some k) (some (k + 1)) ++ [.int 0])) (.int 0) = .ok (.int (cell ns k)) := by
  rw [sl_mid h _ rfl, List.getElem?_map]
  unfold cell
  rw [List.getD_eq_getElem?_getD]
  cases e : ns[k.toNat]? with
  | none => rfl
  | some v => rfl
end PyV
namespace PyV
open PySem L2
/-! ### parts, cells -/
inductive Wd where
  | sum | stop | pick | not
  deriving DecidableEq
def Wd.str : Wd → Str
  | .sum => "sum" | .stop => "stop" | .pick => "pick" | .not => "not"
def Wd.ar : Wd → Nat
  | .sum => 2 | .stop => 2 | .pick => 3 | .not => 1
/-- what a part gives -/
def Wd.val (w : Wd) (ring a b c : Int) : Int := match w with
  | .not => ring - 1 - a
  | .sum => (a + b) % ring
  | .stop => if b = 0 then a else 0
  | .pick => if a = 0 then b else c
theorem ok_not : eqOk (.str "not") = true := by decide +kernel
theorem ok_sum : eqOk (.str "sum") = true := by decide +kernel
theorem ok_stop : eqOk (.str "stop") = true := by decide +kernel
theorem ok_pick : eqOk (.str "pick") = true := by decide +kernel
theorem c_not_not : dCmp .Eq (.str "not") (.str "not") = .ok (.bl true) := by rw [c_eqS ok_not ok_not]; rfl
theorem c_not_sum : dCmp .Eq (.str "not") (.str "sum") = .ok (.bl false) := by rw [c_eqS ok_not ok_sum]; rfl
theorem c_not_stop : dCmp .Eq (.str "not") (.str "stop") = .ok (.bl false) := by rw [c_eqS ok_not ok_stop]; rfl
theorem c_not_pick : dCmp .Eq (.str "not") (.str "pick") = .ok (.bl false) := by rw [c_eqS ok_not ok_pick]; rfl
theorem c_sum_not : dCmp .Eq (.str "sum") (.str "not") = .ok (.bl false) := by rw [c_eqS ok_sum ok_not]; rfl
theorem c_sum_sum : dCmp .Eq (.str "sum") (.str "sum") = .ok (.bl true) := by rw [c_eqS ok_sum ok_sum]; rfl
theorem c_sum_stop : dCmp .Eq (.str "sum") (.str "stop") = .ok (.bl false) := by rw [c_eqS ok_sum ok_stop]; rfl
theorem c_sum_pick : dCmp .Eq (.str "sum") (.str "pick") = .ok (.bl false) := by rw [c_eqS ok_sum ok_pick]; rfl
theorem c_stop_not : dCmp .Eq (.str "stop") (.str "not") = .ok (.bl false) := by rw [c_eqS ok_stop ok_not]; rfl
theorem c_stop_sum : dCmp .Eq (.str "stop") (.str "sum") = .ok (.bl false) := by rw [c_eqS ok_stop ok_sum]; rfl
theorem c_stop_stop : dCmp .Eq (.str "stop") (.str "stop") = .ok (.bl true) := by rw [c_eqS ok_stop ok_stop]; rfl
theorem c_stop_pick : dCmp .Eq (.str "stop") (.str "pick") = .ok (.bl false) := by rw [c_eqS ok_stop ok_pick]; rfl
theorem c_pick_not : dCmp .Eq (.str "pick") (.str "not") = .ok (.bl false) := by rw [c_eqS ok_pick ok_not]; rfl
theorem c_pick_sum : dCmp .Eq (.str "pick") (.str "sum") = .ok (.bl false) := by rw [c_eqS ok_pick ok_sum]; rfl
theorem c_pick_stop : dCmp .Eq (.str "pick") (.str "stop") = .ok (.bl false) := by rw [c_eqS ok_pick ok_stop]; rfl
theorem c_pick_pick : dCmp .Eq (.str "pick") (.str "pick") = .ok (.bl true) := by rw [c_eqS ok_pick ok_pick]; rfl
def dig (ds : List Int) (i : Int) : Int := ds.getD i.toNat 0
theorem ix_ints {ds : List Int} {i : Int} (h : 0 ≤ i ∧ i < ds.length) : dIx (.lst (ds.map D.int)) (.int i) = .ok (.int (dig ds i)) := by
  rw [ix_lst (by rw [List.length_map]; exact h), List.getElem?_map]
  unfold dig
  rw [List.getD_eq_getElem?_getD, List.getElem?_eq_getElem (by omega : i.toNat < ds.length)]
  rfl
theorem ix_tup {xs : List D} {i : Int} (h : 0 ≤ i ∧ i < xs.length) : dIx (.tup xs) (.int i) = ofO xs[i.toNat]? := by
  show ofO (atI xs i) = _
  unfold atI ixN
  rw [if_pos h.1, if_pos h.2]
  rfl
def givenF : Fn := ⟨3, 5, (.cons (.set 3 false (.ix (.v 1) (.ix (.v 0) (.ki 1)))) (.cons (.iff (.cmp .Eq (.ix (.v 0) (.ki 0)) (.ks "not")) (.cons (.ret (.bin .Sub (.bin .Sub (.v 2) (.ki 1)) (.v 3))) .nil) .nil) (.cons (.set 4 false (.ix (.v 1) (.ix (.v 0) (.ki 2)))) (.cons (.iff (.cmp .Eq (.ix (.v 0) (.ki 0)) (.ks "sum")) (.cons (.ret (.bin .Mod (.bin .Add (.v 3) (.v 4)) (.v 2))) .nil) .nil) (.cons (.iff (.cmp .Eq (.ix (.v 0) (.ki 0)) (.ks "stop")) (.cons (.ret (.ite (.cmp .Eq (.v 4) (.ki 0)) (.v 3) (.ki 0))) .nil) .nil) (.cons (.ret (.ite (.cmp .Eq (.v 3) (.ki 0)) (.v 4) (.ix (.v 1) (.ix (.v 0) (.ki 3))))) .nil))))))⟩
def dueF : Fn := ⟨3, 4, (.cons (.set 3 false (.ix (.v 1) (.ix (.v 0) (.ki 1)))) (.cons (.iff (.cmp .Eq (.ix (.v 0) (.ki 0)) (.ks "not")) (.cons (.ret (.bin .Sub (.bin .Sub (.v 2) (.ki 1)) (.v 3))) .nil) .nil) (.cons (.iff (.cmp .Eq (.ix (.v 0) (.ki 0)) (.ks "sum")) (.cons (.ret (.bin .Mod (.bin .Add (.v 3) (.ix (.v 1) (.ix (.v 0) (.ki 2)))) (.v 2))) .nil) .nil) (.cons (.iff (.cmp .Eq (.ix (.v 0) (.ki 0)) (.ks "stop")) (.cons (.ret (.bin .Mult (.v 3) (.bl .int (.cons (.cmp .Eq (.ix (.v 1) (.ix (.v 0) (.ki 2))) (.ki 0)) .nil)))) .nil) .nil) (.cons (.iff (.cmp .Eq (.v 3) (.ki 0)) (.cons (.ret (.ix (.v 1) (.ix (.v 0) (.ki 2)))) .nil) .nil) (.cons (.ret (.ix (.v 1) (.ix (.v 0) (.ki 3)))) .nil))))))⟩
theorem given_not (S : Sig) {ds : List Int} {ring a : Int} (ha : 0 ≤ a ∧ a < ds.length) : runB S givenF [.tup [.str "not", .int a], .lst (ds.map D.int), .int ring] = .ok (.int (Wd.not.val ring (dig ds a) 0 0)) := by
  unfold givenF
  simp (disch := (first | trivial | omega | (simp only [true_and, and_true, lim, List.length_cons, List.length_nil, List.length_map, List.length_append] <;> first | trivial | omega) | assumption)) only [asOwn, asOwnL, runB, evSs, evS, evE, evEs, evB, evIt, isV, isNo, bind_ok, bind_ex, guard_t, env0, mk_lst, mk_dct, mk_tup, mk_frz, mk_int, mk_bl, mk_str, mk_non, el_lst, el_dct, el_tup, el_frz, el_int, el_bl, el_str, el_non, new_own, new_top, new_pl, io_own, io_top, io_pl, asB_bl, asI_int, ent_top, ent_pl, fr_own, fr_top, fr_pl, pu_int, pu_bl, pu_str, pu_non, pu_tup, pu_lst, pu_nil, pu_cons, pe_lst', no_nil, no_cons, al_nil, al_cons, od_rt, od_nx, ofO_some, d_add, d_sub, d_mul, d_div, d_mod, d_cat, d_catT, c_eqI, c_neI, c_lt, c_le, c_gt, c_ge, List.map_cons, List.map_nil, List.length_cons, List.length_nil, List.getElem?_cons_zero, List.getElem?_cons_succ, List.set_cons_zero, List.set_cons_succ, List.cons_append, List.nil_append, List.append_nil, List.replicate, Nat.reduceAdd, Nat.reduceSub, Bool.true_and, Bool.and_true, Bool.false_and, Bool.and_false, Bool.true_or, Bool.or_true, Bool.false_or, Bool.or_false, Bool.not_true, Bool.not_false, if_true, if_false, Bool.false_eq_true, reduceIte, ix_tup, ix_ints, Int.reduceToNat, c_not_not, c_not_sum, c_not_stop, c_not_pick, c_sum_not, c_sum_sum, c_sum_stop, c_sum_pick, c_stop_not, c_stop_sum, c_stop_stop, c_stop_pick, c_pick_not, c_pick_sum, c_pick_stop, c_pick_pick]
  rfl
theorem given_sum (S : Sig) {ds : List Int} {ring a b : Int} (hr : 0 < ring) (ha : 0 ≤ a ∧ a < ds.length) (hb : 0 ≤ b ∧ b < ds.length) : runB S givenF [.tup [.str "sum", .int a, .int b], .lst (ds.map D.int), .int ring] = .ok (.int (Wd.sum.val ring (dig ds a) (dig ds b) 0)) := by
  unfold givenF
  simp (disch := (first | trivial | omega | (simp only [true_and, and_true, lim, List.length_cons, List.length_nil, List.length_map, List.length_append] <;> first | trivial | omega) | assumption)) only [asOwn, asOwnL, runB, evSs, evS, evE, evEs, evB, evIt, isV, isNo, bind_ok, bind_ex, guard_t, env0, mk_lst, mk_dct, mk_tup, mk_frz, mk_int, mk_bl, mk_str, mk_non, el_lst, el_dct, el_tup, el_frz, el_int, el_bl, el_str, el_non, new_own, new_top, new_pl, io_own, io_top, io_pl, asB_bl, asI_int, ent_top, ent_pl, fr_own, fr_top, fr_pl, pu_int, pu_bl, pu_str, pu_non, pu_tup, pu_lst, pu_nil, pu_cons, pe_lst', no_nil, no_cons, al_nil, al_cons, od_rt, od_nx, ofO_some, d_add, d_sub, d_mul, d_div, d_mod, d_cat, d_catT, c_eqI, c_neI, c_lt, c_le, c_gt, c_ge, List.map_cons, List.map_nil, List.length_cons, List.length_nil, List.getElem?_cons_zero, List.getElem?_cons_succ, List.set_cons_zero, List.set_cons_succ, List.cons_append, List.nil_append, List.append_nil, List.replicate, Nat.reduceAdd, Nat.reduceSub, Bool.true_and, Bool.and_true, Bool.false_and, Bool.and_false, Bool.true_or, Bool.or_true, Bool.false_or, Bool.or_false, Bool.not_true, Bool.not_false, if_true, if_false, Bool.false_eq_true, reduceIte, ix_tup, ix_ints, Int.reduceToNat, c_not_not, c_not_sum, c_not_stop, c_not_pick, c_sum_not, c_sum_sum, c_sum_stop, c_sum_pick, c_stop_not, c_stop_sum, c_stop_stop, c_stop_pick, c_pick_not, c_pick_sum, c_pick_stop, c_pick_pick]
  rfl
theorem given_stop (S : Sig) {ds : List Int} {ring a b : Int} (ha : 0 ≤ a ∧ a < ds.length) (hb : 0 ≤ b ∧ b < ds.length) : runB S givenF [.tup [.str "stop", .int a, .int b], .lst (ds.map D.int), .int ring] = .ok (.int (Wd.stop.val ring (dig ds a) (dig ds b) 0)) := by
  unfold givenF
  simp (disch := (first | trivial | omega | (simp only [true_and, and_true, lim, List.length_cons, List.length_nil, List.length_map, List.length_append] <;> first | trivial | omega) | assumption)) only [asOwn, asOwnL, runB, evSs, evS, evE, evEs, evB, evIt, isV, isNo, bind_ok, bind_ex, guard_t, env0, mk_lst, mk_dct, mk_tup, mk_frz, mk_int, mk_bl, mk_str, mk_non, el_lst, el_dct, el_tup, el_frz, el_int, el_bl, el_str, el_non, new_own, new_top, new_pl, io_own, io_top, io_pl, asB_bl, asI_int, ent_top, ent_pl, fr_own, fr_top, fr_pl, pu_int, pu_bl, pu_str, pu_non, pu_tup, pu_lst, pu_nil, pu_cons, pe_lst', no_nil, no_cons, al_nil, al_cons, od_rt, od_nx, ofO_some, d_add, d_sub, d_mul, d_div, d_mod, d_cat, d_catT, c_eqI, c_neI, c_lt, c_le, c_gt, c_ge, List.map_cons, List.map_nil, List.length_cons, List.length_nil, List.getElem?_cons_zero, List.getElem?_cons_succ, List.set_cons_zero, List.set_cons_succ, List.cons_append, List.nil_append, List.append_nil, List.replicate, Nat.reduceAdd, Nat.reduceSub, Bool.true_and, Bool.and_true, Bool.false_and, Bool.and_false, Bool.true_or, Bool.or_true, Bool.false_or, Bool.or_false, Bool.not_true, Bool.not_false, if_true, if_false, Bool.false_eq_true, reduceIte, ix_tup, ix_ints, Int.reduceToNat, c_not_not, c_not_sum, c_not_stop, c_not_pick, c_sum_not, c_sum_sum, c_sum_stop, c_sum_pick, c_stop_not, c_stop_sum, c_stop_stop, c_stop_pick, c_pick_not, c_pick_sum, c_pick_stop, c_pick_pick]
  by_cases h : dig ds b = 0
  · simp (disch := (first | trivial | omega | (simp only [true_and, and_true, lim, List.length_cons, List.length_nil, List.length_map, List.length_append] <;> first | trivial | omega) | assumption)) only [asOwn, asOwnL, runB, evSs, evS, evE, evEs, evB, evIt, isV, isNo, bind_ok, bind_ex, guard_t, env0, mk_lst, mk_dct, mk_tup, mk_frz, mk_int, mk_bl, mk_str, mk_non, el_lst, el_dct, el_tup, el_frz, el_int, el_bl, el_str, el_non, new_own, new_top, new_pl, io_own, io_top, io_pl, asB_bl, asI_int, ent_top, ent_pl, fr_own, fr_top, fr_pl, pu_int, pu_bl, pu_str, pu_non, pu_tup, pu_lst, pu_nil, pu_cons, pe_lst', no_nil, no_cons, al_nil, al_cons, od_rt, od_nx, ofO_some, d_add, d_sub, d_mul, d_div, d_mod, d_cat, d_catT, c_eqI, c_neI, c_lt, c_le, c_gt, c_ge, List.map_cons, List.map_nil, List.length_cons, List.length_nil, List.getElem?_cons_zero, List.getElem?_cons_succ, List.set_cons_zero, List.set_cons_succ, List.cons_append, List.nil_append, List.append_nil, List.replicate, Nat.reduceAdd, Nat.reduceSub, Bool.true_and, Bool.and_true, Bool.false_and, Bool.and_false, Bool.true_or, Bool.or_true, Bool.false_or, Bool.or_false, Bool.not_true, Bool.not_false, if_true, if_false, Bool.false_eq_true, reduceIte, ix_tup, ix_ints, Int.reduceToNat, c_not_not, c_not_sum, c_not_stop, c_not_pick, c_sum_not, c_sum_sum, c_sum_stop, c_sum_pick, c_stop_not, c_stop_sum, c_stop_stop, c_stop_pick, c_pick_not, c_pick_sum, c_pick_stop, c_pick_pick, h, decide_true]
    simp [Wd.val, h]
  · simp (disch := (first | trivial | omega | (simp only [true_and, and_true, lim, List.length_cons, List.length_nil, List.length_map, List.length_append] <;> first | trivial | omega) | assumption)) only [asOwn, asOwnL, runB, evSs, evS, evE, evEs, evB, evIt, isV, isNo, bind_ok, bind_ex, guard_t, env0, mk_lst, mk_dct, mk_tup, mk_frz, mk_int, mk_bl, mk_str, mk_non, el_lst, el_dct, el_tup, el_frz, el_int, el_bl, el_str, el_non, new_own, new_top, new_pl, io_own, io_top, io_pl, asB_bl, asI_int, ent_top, ent_pl, fr_own, fr_top, fr_pl, pu_int, pu_bl, pu_str, pu_non, pu_tup, pu_lst, pu_nil, pu_cons, pe_lst', no_nil, no_cons, al_nil, al_cons, od_rt, od_nx, ofO_some, d_add, d_sub, d_mul, d_div, d_mod, d_cat, d_catT, c_eqI, c_neI, c_lt, c_le, c_gt, c_ge, List.map_cons, List.map_nil, List.length_cons, List.length_nil, List.getElem?_cons_zero, List.getElem?_cons_succ, List.set_cons_zero, List.set_cons_succ, List.cons_append, List.nil_append, List.append_nil, List.replicate, Nat.reduceAdd, Nat.reduceSub, Bool.true_and, Bool.and_true, Bool.false_and, Bool.and_false, Bool.true_or, Bool.or_true, Bool.false_or, Bool.or_false, Bool.not_true, Bool.not_false, if_true, if_false, Bool.false_eq_true, reduceIte, ix_tup, ix_ints, Int.reduceToNat, c_not_not, c_not_sum, c_not_stop, c_not_pick, c_sum_not, c_sum_sum, c_sum_stop, c_sum_pick, c_stop_not, c_stop_sum, c_stop_stop, c_stop_pick, c_pick_not, c_pick_sum, c_pick_stop, c_pick_pick, h, decide_false]
    simp [Wd.val, h]
theorem given_pick (S : Sig) {ds : List Int} {ring a b c : Int} (ha : 0 ≤ a ∧ a < ds.length) (hb : 0 ≤ b ∧ b < ds.length) (hc : 0 ≤ c ∧ c < ds.length) : runB S givenF [.tup [.str "pick", .int a, .int b, .int c], .lst (ds.map D.int), .int ring] = .ok (.int (Wd.pick.val ring (dig ds a) (dig ds b) (dig ds c))) := by
  unfold givenF
  simp (disch := (first | trivial | omega | (simp only [true_and, and_true, lim, List.length_cons, List.length_nil, List.length_map, List.length_append] <;> first | trivial | omega) | assumption)) only [asOwn, asOwnL, runB, evSs, evS, evE, evEs, evB, evIt, isV, isNo, bind_ok, bind_ex, guard_t, env0, mk_lst, mk_dct, mk_tup, mk_frz, mk_int, mk_bl, mk_str, mk_non, el_lst, el_dct, el_tup, el_frz, el_int, el_bl, el_str, el_non, new_own, new_top, new_pl, io_own, io_top, io_pl, asB_bl, asI_int, ent_top, ent_pl, fr_own, fr_top, fr_pl, pu_int, pu_bl, pu_str, pu_non, pu_tup, pu_lst, pu_nil, pu_cons, pe_lst', no_nil, no_cons, al_nil, al_cons, od_rt, od_nx, ofO_some, d_add, d_sub, d_mul, d_div, d_mod, d_cat, d_catT, c_eqI, c_neI, c_lt, c_le, c_gt, c_ge, List.map_cons, List.map_nil, List.length_cons, List.length_nil, List.getElem?_cons_zero, List.getElem?_cons_succ, List.set_cons_zero, List.set_cons_succ, List.cons_append, List.nil_append, List.append_nil, List.replicate, Nat.reduceAdd, Nat.reduceSub, Bool.true_and, Bool.and_true, Bool.false_and, Bool.and_false, Bool.true_or, Bool.or_true, Bool.false_or, Bool.or_false, Bool.not_true, Bool.not_false, if_true, if_false, Bool.false_eq_true, reduceIte, ix_tup, ix_ints, Int.reduceToNat, c_not_not, c_not_sum, c_not_stop, c_not_pick, c_sum_not, c_sum_sum, c_sum_stop, c_sum_pick, c_stop_not, c_stop_sum, c_stop_stop, c_stop_pick, c_pick_not, c_pick_sum, c_pick_stop, c_pick_pick]
  by_cases h : dig ds a = 0
  · simp (disch := (first | trivial | omega | (simp only [true_and, and_true, lim, List.length_cons, List.length_nil, List.length_map, List.length_append] <;> first | trivial | omega) | assumption)) only [asOwn, asOwnL, runB, evSs, evS, evE, evEs, evB, evIt, isV, isNo, bind_ok, bind_ex, guard_t, env0, mk_lst, mk_dct, mk_tup, mk_frz, mk_int, mk_bl, mk_str, mk_non, el_lst, el_dct, el_tup, el_frz, el_int, el_bl, el_str, el_non, new_own, new_top, new_pl, io_own, io_top, io_pl, asB_bl, asI_int, ent_top, ent_pl, fr_own, fr_top, fr_pl, pu_int, pu_bl, pu_str, pu_non, pu_tup, pu_lst, pu_nil, pu_cons, pe_lst', no_nil, no_cons, al_nil, al_cons, od_rt, od_nx, ofO_some, d_add, d_sub, d_mul, d_div, d_mod, d_cat, d_catT, c_eqI, c_neI, c_lt, c_le, c_gt, c_ge, List.map_cons, List.map_nil, List.length_cons, List.length_nil, List.getElem?_cons_zero, List.getElem?_cons_succ, List.set_cons_zero, List.set_cons_succ, List.cons_append, List.nil_append, List.append_nil, List.replicate, Nat.reduceAdd, Nat.reduceSub, Bool.true_and, Bool.and_true, Bool.false_and, Bool.and_false, Bool.true_or, Bool.or_true, Bool.false_or, Bool.or_false, Bool.not_true, Bool.not_false, if_true, if_false, Bool.false_eq_true, reduceIte, ix_tup, ix_ints, Int.reduceToNat, c_not_not, c_not_sum, c_not_stop, c_not_pick, c_sum_not, c_sum_sum, c_sum_stop, c_sum_pick, c_stop_not, c_stop_sum, c_stop_stop, c_stop_pick, c_pick_not, c_pick_sum, c_pick_stop, c_pick_pick, h, decide_true]
    simp [Wd.val, h]
  · simp (disch := (first | trivial | omega | (simp only [true_and, and_true, lim, List.length_cons, List.length_nil, List.length_map, List.length_append] <;> first | trivial | omega) | assumption)) only [asOwn, asOwnL, runB, evSs, evS, evE, evEs, evB, evIt, isV, isNo, bind_ok, bind_ex, guard_t, env0, mk_lst, mk_dct, mk_tup, mk_frz, mk_int, mk_bl, mk_str, mk_non, el_lst, el_dct, el_tup, el_frz, el_int, el_bl, el_str, el_non, new_own, new_top, new_pl, io_own, io_top, io_pl, asB_bl, asI_int, ent_top, ent_pl, fr_own, fr_top, fr_pl, pu_int, pu_bl, pu_str, pu_non, pu_tup, pu_lst, pu_nil, pu_cons, pe_lst', no_nil, no_cons, al_nil, al_cons, od_rt, od_nx, ofO_some, d_add, d_sub, d_mul, d_div, d_mod, d_cat, d_catT, c_eqI, c_neI, c_lt, c_le, c_gt, c_ge, List.map_cons, List.map_nil, List.length_cons, List.length_nil, List.getElem?_cons_zero, List.getElem?_cons_succ, List.set_cons_zero, List.set_cons_succ, List.cons_append, List.nil_append, List.append_nil, List.replicate, Nat.reduceAdd, Nat.reduceSub, Bool.true_and, Bool.and_true, Bool.false_and, Bool.and_false, Bool.true_or, Bool.or_true, Bool.false_or, Bool.or_false, Bool.not_true, Bool.not_false, if_true, if_false, Bool.false_eq_true, reduceIte, ix_tup, ix_ints, Int.reduceToNat, c_not_not, c_not_sum, c_not_stop, c_not_pick, c_sum_not, c_sum_sum, c_sum_stop, c_sum_pick, c_stop_not, c_stop_sum, c_stop_stop, c_stop_pick, c_pick_not, c_pick_sum, c_pick_stop, c_pick_pick, h, decide_false]
    simp [Wd.val, h]
theorem bint (b : Bool) : dBlt .int [.bl b] = .ok (.int (if b then 1 else 0)) := rfl
theorem due_not (S : Sig) {ds : List Int} {ring a : Int} (ha : 0 ≤ a ∧ a < ds.length) : runB S dueF [.tup [.str "not", .int a], .lst (ds.map D.int), .int ring] = .ok (.int (Wd.not.val ring (dig ds a) 0 0)) := by
  unfold dueF
  simp (disch := (first | trivial | omega | (simp only [true_and, and_true, lim, List.length_cons, List.length_nil, List.length_map, List.length_append] <;> first | trivial | omega) | assumption)) only [asOwn, asOwnL, runB, evSs, evS, evE, evEs, evB, evIt, isV, isNo, bind_ok, bind_ex, guard_t, env0, mk_lst, mk_dct, mk_tup, mk_frz, mk_int, mk_bl, mk_str, mk_non, el_lst, el_dct, el_tup, el_frz, el_int, el_bl, el_str, el_non, new_own, new_top, new_pl, io_own, io_top, io_pl, asB_bl, asI_int, ent_top, ent_pl, fr_own, fr_top, fr_pl, pu_int, pu_bl, pu_str, pu_non, pu_tup, pu_lst, pu_nil, pu_cons, pe_lst', no_nil, no_cons, al_nil, al_cons, od_rt, od_nx, ofO_some, d_add, d_sub, d_mul, d_div, d_mod, d_cat, d_catT, c_eqI, c_neI, c_lt, c_le, c_gt, c_ge, List.map_cons, List.map_nil, List.length_cons, List.length_nil, List.getElem?_cons_zero, List.getElem?_cons_succ, List.set_cons_zero, List.set_cons_succ, List.cons_append, List.nil_append, List.append_nil, List.replicate, Nat.reduceAdd, Nat.reduceSub, Bool.true_and, Bool.and_true, Bool.false_and, Bool.and_false, Bool.true_or, Bool.or_true, Bool.false_or, Bool.or_false, Bool.not_true, Bool.not_false, if_true, if_false, Bool.false_eq_true, reduceIte, ix_tup, ix_ints, Int.reduceToNat, c_not_not, c_not_sum, c_not_stop, c_not_pick, c_sum_not, c_sum_sum, c_sum_stop, c_sum_pick, c_stop_not, c_stop_sum, c_stop_stop, c_stop_pick, c_pick_not, c_pick_sum, c_pick_stop, c_pick_pick]
  rfl
theorem due_sum (S : Sig) {ds : List Int} {ring a b : Int} (hr : 0 < ring) (ha : 0 ≤ a ∧ a < ds.length) (hb : 0 ≤ b ∧ b < ds.length) : runB S dueF [.tup [.str "sum", .int a, .int b], .lst (ds.map D.int), .int ring] = .ok (.int (Wd.sum.val ring (dig ds a) (dig ds b) 0)) := by
  unfold dueF
  simp (disch := (first | trivial | omega | (simp only [true_and, and_true, lim, List.length_cons, List.length_nil, List.length_map, List.length_append] <;> first | trivial | omega) | assumption)) only [asOwn, asOwnL, runB, evSs, evS, evE, evEs, evB, evIt, isV, isNo, bind_ok, bind_ex, guard_t, env0, mk_lst, mk_dct, mk_tup, mk_frz, mk_int, mk_bl, mk_str, mk_non, el_lst, el_dct, el_tup, el_frz, el_int, el_bl, el_str, el_non, new_own, new_top, new_pl, io_own, io_top, io_pl, asB_bl, asI_int, ent_top, ent_pl, fr_own, fr_top, fr_pl, pu_int, pu_bl, pu_str, pu_non, pu_tup, pu_lst, pu_nil, pu_cons, pe_lst', no_nil, no_cons, al_nil, al_cons, od_rt, od_nx, ofO_some, d_add, d_sub, d_mul, d_div, d_mod, d_cat, d_catT, c_eqI, c_neI, c_lt, c_le, c_gt, c_ge, List.map_cons, List.map_nil, List.length_cons, List.length_nil, List.getElem?_cons_zero, List.getElem?_cons_succ, List.set_cons_zero, List.set_cons_succ, List.cons_append, List.nil_append, List.append_nil, List.replicate, Nat.reduceAdd, Nat.reduceSub, Bool.true_and, Bool.and_true, Bool.false_and, Bool.and_false, Bool.true_or, Bool.or_true, Bool.false_or, Bool.or_false, Bool.not_true, Bool.not_false, if_true, if_false, Bool.false_eq_true, reduceIte, ix_tup, ix_ints, Int.reduceToNat, c_not_not, c_not_sum, c_not_stop, c_not_pick, c_sum_not, c_sum_sum, c_sum_stop, c_sum_pick, c_stop_not, c_stop_sum, c_stop_stop, c_stop_pick, c_pick_not, c_pick_sum, c_pick_stop, c_pick_pick]
  rfl
theorem due_stop (S : Sig) {ds : List Int} {ring a b : Int} (ha : 0 ≤ a ∧ a < ds.length) (hb : 0 ≤ b ∧ b < ds.length) : runB S dueF [.tup [.str "stop", .int a, .int b], .lst (ds.map D.int), .int ring] = .ok (.int (Wd.stop.val ring (dig ds a) (dig ds b) 0)) := by
  unfold dueF
  by_cases h : dig ds b = 0
  · simp (disch := (first | trivial | omega | (simp only [true_and, and_true, lim, List.length_cons, List.length_nil, List.length_map, List.length_append] <;> first | trivial | omega) | assumption)) only [asOwn, asOwnL, runB, evSs, evS, evE, evEs, evB, evIt, isV, isNo, bind_ok, bind_ex, guard_t, env0, mk_lst, mk_dct, mk_tup, mk_frz, mk_int, mk_bl, mk_str, mk_non, el_lst, el_dct, el_tup, el_frz, el_int, el_bl, el_str, el_non, new_own, new_top, new_pl, io_own, io_top, io_pl, asB_bl, asI_int, ent_top, ent_pl, fr_own, fr_top, fr_pl, pu_int, pu_bl, pu_str, pu_non, pu_tup, pu_lst, pu_nil, pu_cons, pe_lst', no_nil, no_cons, al_nil, al_cons, od_rt, od_nx, ofO_some, d_add, d_sub, d_mul, d_div, d_mod, d_cat, d_catT, c_eqI, c_neI, c_lt, c_le, c_gt, c_ge, List.map_cons, List.map_nil, List.length_cons, List.length_nil, List.getElem?_cons_zero, List.getElem?_cons_succ, List.set_cons_zero, List.set_cons_succ, List.cons_append, List.nil_append, List.append_nil, List.replicate, Nat.reduceAdd, Nat.reduceSub, Bool.true_and, Bool.and_true, Bool.false_and, Bool.and_false, Bool.true_or, Bool.or_true, Bool.false_or, Bool.or_false, Bool.not_true, Bool.not_false, if_true, if_false, Bool.false_eq_true, reduceIte, ix_tup, ix_ints, Int.reduceToNat, c_not_not, c_not_sum, c_not_stop, c_not_pick, c_sum_not, c_sum_sum, c_sum_stop, c_sum_pick, c_stop_not, c_stop_sum, c_stop_stop, c_stop_pick, c_pick_not, c_pick_sum, c_pick_stop, c_pick_pick, h, decide_true, bint]
    simp [Wd.val, h]
  · simp (disch := (first | trivial | omega | (simp only [true_and, and_true, lim, List.length_cons, List.length_nil, List.length_map, List.length_append] <;> first | trivial | omega) | assumption)) only [asOwn, asOwnL, runB, evSs, evS, evE, evEs, evB, evIt, isV, isNo, bind_ok, bind_ex, guard_t, env0, mk_lst, mk_dct, mk_tup, mk_frz, mk_int, mk_bl, mk_str, mk_non, el_lst, el_dct, el_tup, el_frz, el_int, el_bl, el_str, el_non, new_own, new_top, new_pl, io_own, io_top, io_pl, asB_bl, asI_int, ent_top, ent_pl, fr_own, fr_top, fr_pl, pu_int, pu_bl, pu_str, pu_non, pu_tup, pu_lst, pu_nil, pu_cons, pe_lst', no_nil, no_cons, al_nil, al_cons, od_rt, od_nx, ofO_some, d_add, d_sub, d_mul, d_div, d_mod, d_cat, d_catT, c_eqI, c_neI, c_lt, c_le, c_gt, c_ge, List.map_cons, List.map_nil, List.length_cons, List.length_nil, List.getElem?_cons_zero, List.getElem?_cons_succ, List.set_cons_zero, List.set_cons_succ, List.cons_append, List.nil_append, List.append_nil, List.replicate, Nat.reduceAdd, Nat.reduceSub, Bool.true_and, Bool.and_true, Bool.false_and, Bool.and_false, Bool.true_or, Bool.or_true, Bool.false_or, Bool.or_false, Bool.not_true, Bool.not_false, if_true, if_false, Bool.false_eq_true, reduceIte, ix_tup, ix_ints, Int.reduceToNat, c_not_not, c_not_sum, c_not_stop, c_not_pick, c_sum_not, c_sum_sum, c_sum_stop, c_sum_pick, c_stop_not, c_stop_sum, c_stop_stop, c_stop_pick, c_pick_not, c_pick_sum, c_pick_stop, c_pick_pick, h, decide_false, bint]
    simp [Wd.val, h]
theorem due_pick (S : Sig) {ds : List Int} {ring a b c : Int} (ha : 0 ≤ a ∧ a < ds.length) (hb : 0 ≤ b ∧ b < ds.length) (hc : 0 ≤ c ∧ c < ds.length) : runB S dueF [.tup [.str "pick", .int a, .int b, .int c], .lst (ds.map D.int), .int ring] = .ok (.int (Wd.pick.val ring (dig ds a) (dig ds b) (dig ds c))) := by
  unfold dueF
  by_cases h : dig ds a = 0
  · simp (disch := (first | trivial | omega | (simp only [true_and, and_true, lim, List.length_cons, List.length_nil, List.length_map, List.length_append] <;> first | trivial | omega) | assumption)) only [asOwn, asOwnL, runB, evSs, evS, evE, evEs, evB, evIt, isV, isNo, bind_ok, bind_ex, guard_t, env0, mk_lst, mk_dct, mk_tup, mk_frz, mk_int, mk_bl, mk_str, mk_non, el_lst, el_dct, el_tup, el_frz, el_int, el_bl, el_str, el_non, new_own, new_top, new_pl, io_own, io_top, io_pl, asB_bl, asI_int, ent_top, ent_pl, fr_own, fr_top, fr_pl, pu_int, pu_bl, pu_str, pu_non, pu_tup, pu_lst, pu_nil, pu_cons, pe_lst', no_nil, no_cons, al_nil, al_cons, od_rt, od_nx, ofO_some, d_add, d_sub, d_mul, d_div, d_mod, d_cat, d_catT, c_eqI, c_neI, c_lt, c_le, c_gt, c_ge, List.map_cons, List.map_nil, List.length_cons, List.length_nil, List.getElem?_cons_zero, List.getElem?_cons_succ, List.set_cons_zero, List.set_cons_succ, List.cons_append, List.nil_append, List.append_nil, List.replicate, Nat.reduceAdd, Nat.reduceSub, Bool.true_and, Bool.and_true, Bool.false_and, Bool.and_false, Bool.true_or, Bool.or_true, Bool.false_or, Bool.or_false, Bool.not_true, Bool.not_false, if_true, if_false, Bool.false_eq_true, reduceIte, ix_tup, ix_ints, Int.reduceToNat, c_not_not, c_not_sum, c_not_stop, c_not_pick, c_sum_not, c_sum_sum, c_sum_stop, c_sum_pick, c_stop_not, c_stop_sum, c_stop_stop, c_stop_pick, c_pick_not, c_pick_sum, c_pick_stop, c_pick_pick, h, decide_true]
    simp [Wd.val, h]
  · simp (disch := (first | trivial | omega | (simp only [true_and, and_true, lim, List.length_cons, List.length_nil, List.length_map, List.length_append] <;> first | trivial | omega) | assumption)) only [asOwn, asOwnL, runB, evSs, evS, evE, evEs, evB, evIt, isV, isNo, bind_ok, bind_ex, guard_t, env0, mk_lst, mk_dct, mk_tup, mk_frz, mk_int, mk_bl, mk_str, mk_non, el_lst, el_dct, el_tup, el_frz, el_int, el_bl, el_str, el_non, new_own, new_top, new_pl, io_own, io_top, io_pl, asB_bl, asI_int, ent_top, ent_pl, fr_own, fr_top, fr_pl, pu_int, pu_bl, pu_str, pu_non, pu_tup, pu_lst, pu_nil, pu_cons, pe_lst', no_nil, no_cons, al_nil, al_cons, od_rt, od_nx, ofO_some, d_add, d_sub, d_mul, d_div, d_mod, d_cat, d_catT, c_eqI, c_neI, c_lt, c_le, c_gt, c_ge, List.map_cons, List.map_nil, List.length_cons, List.length_nil, List.getElem?_cons_zero, List.getElem?_cons_succ, List.set_cons_zero, List.set_cons_succ, List.cons_append, List.nil_append, List.append_nil, List.replicate, Nat.reduceAdd, Nat.reduceSub, Bool.true_and, Bool.and_true, Bool.false_and, Bool.and_false, Bool.true_or, Bool.or_true, Bool.false_or, Bool.or_false, Bool.not_true, Bool.not_false, if_true, if_false, Bool.false_eq_true, reduceIte, ix_tup, ix_ints, Int.reduceToNat, c_not_not, c_not_sum, c_not_stop, c_not_pick, c_sum_not, c_sum_sum, c_sum_stop, c_sum_pick, c_stop_not, c_stop_sum, c_stop_stop, c_stop_pick, c_pick_not, c_pick_sum, c_pick_stop, c_pick_pick, h, decide_false]
    simp [Wd.val, h]
/-- a part -/
structure Pt where
  w : Wd
  ls : List Int
def Pt.D (p : Pt) : PyV.D := .tup (.str p.w.str :: p.ls.map .int)
def Pt.ok (p : Pt) (n : Nat) : Prop := p.ls.length = p.w.ar ∧ ∀ l ∈ p.ls, 0 ≤ l ∧ l < n
def Pt.val (p : Pt) (ring : Int) (ds : List Int) : Int := p.w.val ring (dig ds (p.ls.getD 0 0)) (dig ds (p.ls.getD 1 0)) (dig ds (p.ls.getD 2 0))
theorem Pt.cases {P : Pt → Prop} {p : Pt} {n : Nat} (h : p.ok n) (h1 : ∀ a : Int, (0 ≤ a ∧ a < n) → P ⟨.not, [a]⟩) (h2 : ∀ a b : Int, (0 ≤ a ∧ a < n) → (0 ≤ b ∧ b < n) → P ⟨.sum, [a, b]⟩) (h3 : ∀ a b : Int, (0 ≤ a ∧ a < n) → (0 ≤ b ∧ b < n) → P ⟨.stop, [a, b]⟩)
    (h4 : ∀ a b c : Int, (0 ≤ a ∧ a < n) → (0 ≤ b ∧ b < n) → (0 ≤ c ∧ c < n) → P ⟨.pick, [a, b, c]⟩) : P p := by
  obtain ⟨w, ls⟩ := p
  obtain ⟨hl, hb⟩ := h
  cases w with
  | not =>
    match ls, hl, hb with
    | [a], _, hb => exact h1 a (hb a (by simp))
  | sum =>
    match ls, hl, hb with
    | [a, b], _, hb => exact h2 a b (hb a (by simp)) (hb b (by simp))
  | stop =>
    match ls, hl, hb with
    | [a, b], _, hb => exact h3 a b (hb a (by simp)) (hb b (by simp))
  | pick =>
    match ls, hl, hb with
    | [a, b, c], _, hb => exact h4 a b c (hb a (by simp)) (hb b (by simp)) (hb c (by simp))
theorem given_pt (S : Sig) {ds : List Int} {ring : Int} {p : Pt} (hr : 0 < ring) (h : p.ok ds.length) : runB S givenF [p.D, .lst (ds.map PyV.D.int), .int ring] = .ok (.int (p.val ring ds)) :=
  Pt.cases (P := fun p => runB S givenF [p.D, .lst (ds.map PyV.D.int), .int ring] = .ok (.int (p.val ring ds))) h (fun _ => given_not S) (fun _ _ => given_sum S hr) (fun _ _ => given_stop S) (fun _ _ _ => given_pick S)
theorem due_pt (S : Sig) {ds : List Int} {ring : Int} {p : Pt} (hr : 0 < ring) (h : p.ok ds.length) : runB S dueF [p.D, .lst (ds.map PyV.D.int), .int ring] = .ok (.int (p.val ring ds)) :=
  Pt.cases (P := fun p => runB S dueF [p.D, .lst (ds.map PyV.D.int), .int ring] = .ok (.int (p.val ring ds))) h (fun _ => due_not S) (fun _ _ => due_sum S hr) (fun _ _ => due_stop S) (fun _ _ _ => due_pick S)
/-! ### the draws -/
def cellF : Fn := ⟨2, 2, (.cons (.ret (.ix (.bin .Add (.sl (.v 0) (.v 1) (.bin .Add (.v 1) (.ki 1))) (.lst (.cons (.ki 0) .nil))) (.ki 0))) .nil)⟩
theorem run_cell (S : Sig) (ns : List Int) (hn : ns.length ≤ 63) {k : Int} (h : 0 ≤ k) : runB S cellF [.frz (ns.map D.int), .int k] = .ok (.int (cell ns k)) := by
  have hl := cut_len (ns.map D.int) (some k) (some (k + 1))
  rw [List.length_map] at hl
  unfold cellF
  simp (disch := (first | trivial | omega | (simp only [true_and, and_true, lim, List.length_cons, List.length_nil, List.length_map, List.length_append] <;> first | trivial | omega) | assumption)) only [asOwn, asOwnL, runB, evSs, evS, evE, evEs, evB, evIt, isV, isNo, bind_ok, bind_ex, guard_t, env0, mk_lst, mk_dct, mk_tup, mk_frz, mk_int, mk_bl, mk_str, mk_non, el_lst, el_dct, el_tup, el_frz, el_int, el_bl, el_str, el_non, new_own, new_top, new_pl, io_own, io_top, io_pl, asB_bl, asI_int, ent_top, ent_pl, fr_own, fr_top, fr_pl, pu_int, pu_bl, pu_str, pu_non, pu_tup, pu_lst, pu_nil, pu_cons, pe_lst', no_nil, no_cons, al_nil, al_cons, od_rt, od_nx, ofO_some, d_add, d_sub, d_mul, d_div, d_mod, d_cat, d_catT, c_eqI, c_neI, c_lt, c_le, c_gt, c_ge, List.map_cons, List.map_nil, List.length_cons, List.length_nil, List.getElem?_cons_zero, List.getElem?_cons_succ, List.set_cons_zero, List.set_cons_succ, List.cons_append, List.nil_append, List.append_nil, List.replicate, Nat.reduceAdd, Nat.reduceSub, Bool.true_and, Bool.and_true, Bool.false_and, Bool.and_false, Bool.true_or, Bool.or_true, Bool.false_or, Bool.or_false, Bool.not_true, Bool.not_false, if_true, if_false, Bool.false_eq_true, reduceIte, sl_frz, cell_at ns h]
def mixedF (c : Nat) : Fn := ⟨2, 2, (.cons (.ret (.bin .Mod (.bin .Mult (.bin .Add (.call c (.cons (.v 0) (.cons (.v 1) .nil))) (.bin .Mult (.ki 101) (.v 1))) (.ki 48271)) (.ki 2147483647))) .nil)⟩
theorem mixed_ex (ns : List Int) (k : Int) : ∃ v : Int, v = (cell ns k + 101 * k) * 48271 % 2147483647 := ⟨_, rfl⟩
/-- a drawn number; told by its law alone -/
noncomputable def mixed (ns : List Int) (k : Int) : Int := Classical.choose (mixed_ex ns k)
theorem mixed_is (ns : List Int) (k : Int) : mixed ns k = (cell ns k + 101 * k) * 48271 % 2147483647 := Classical.choose_spec (mixed_ex ns k)
theorem mixed_nn (ns : List Int) (k : Int) : 0 ≤ mixed ns k := by rw [mixed_is]; exact Int.emod_nonneg _ (by decide)
theorem run_mixed (S : Sig) (c : Nat) (ns : List Int) {k : Int} (h : S.call c [.frz (ns.map D.int), .int k] = .ok (.int (cell ns k))) : runB S (mixedF c) [.frz (ns.map D.int), .int k] = .ok (.int (mixed ns k)) := by
  rw [mixed_is]
  unfold mixedF
  generalize hx : (2147483647 : Int) = q
  have hq : 0 < q := by rw [← hx]; decide
  simp (disch := (first | trivial | omega | (simp only [true_and, and_true, lim, List.length_cons, List.length_nil, List.length_map, List.length_append] <;> first | trivial | omega) | assumption)) only [asOwn, asOwnL, runB, evSs, evS, evE, evEs, evB, evIt, isV, isNo, bind_ok, bind_ex, guard_t, env0, mk_lst, mk_dct, mk_tup, mk_frz, mk_int, mk_bl, mk_str, mk_non, el_lst, el_dct, el_tup, el_frz, el_int, el_bl, el_str, el_non, new_own, new_top, new_pl, io_own, io_top, io_pl, asB_bl, asI_int, ent_top, ent_pl, fr_own, fr_top, fr_pl, pu_int, pu_bl, pu_str, pu_non, pu_tup, pu_lst, pu_nil, pu_cons, pe_lst', no_nil, no_cons, al_nil, al_cons, od_rt, od_nx, ofO_some, d_add, d_sub, d_mul, d_div, d_mod, d_cat, d_catT, c_eqI, c_neI, c_lt, c_le, c_gt, c_ge, List.map_cons, List.map_nil, List.length_cons, List.length_nil, List.getElem?_cons_zero, List.getElem?_cons_succ, List.set_cons_zero, List.set_cons_succ, List.cons_append, List.nil_append, List.append_nil, List.replicate, Nat.reduceAdd, Nat.reduceSub, Bool.true_and, Bool.and_true, Bool.false_and, Bool.and_false, Bool.true_or, Bool.or_true, Bool.false_or, Bool.or_false, Bool.not_true, Bool.not_false, if_true, if_false, Bool.false_eq_true, reduceIte, h, d_mull]
def wholeF : Fn := ⟨1, 1, (.cons (.ret (.bop .And (.cons (.bl .isi (.cons (.v 0) (.cons (.ty "int") .nil))) (.cons (.nt (.bl .isi (.cons (.v 0) (.cons (.ty "bool") .nil)))) .nil)))) .nil)⟩
theorem isi_ii (i : Int) : dBlt .isi [.int i, .opq (.ty "int")] = .ok (.bl true) := by
  simp only [dBlt, dIsi, tyName]
  have : kitB "int" "int" = some true := by decide +kernel
  rw [this]
theorem isi_ib (i : Int) : dBlt .isi [.int i, .opq (.ty "bool")] = .ok (.bl false) := by
  simp only [dBlt, dIsi, tyName]
  have : kitB "int" "bool" = some false := by decide +kernel
  rw [this]
theorem run_whole (S : Sig) (i : Int) : runB S wholeF [.int i] = .ok (.bl true) := by
  unfold wholeF
  simp (disch := (first | trivial | omega | (simp only [true_and, and_true, lim, List.length_cons, List.length_nil, List.length_map, List.length_append] <;> first | trivial | omega) | assumption)) only [asOwn, asOwnL, runB, evSs, evS, evE, evEs, evB, evIt, isV, isNo, bind_ok, bind_ex, guard_t, env0, mk_lst, mk_dct, mk_tup, mk_frz, mk_int, mk_bl, mk_str, mk_non, el_lst, el_dct, el_tup, el_frz, el_int, el_bl, el_str, el_non, new_own, new_top, new_pl, io_own, io_top, io_pl, asB_bl, asI_int, ent_top, ent_pl, fr_own, fr_top, fr_pl, pu_int, pu_bl, pu_str, pu_non, pu_tup, pu_lst, pu_nil, pu_cons, pe_lst', no_nil, no_cons, al_nil, al_cons, od_rt, od_nx, ofO_some, d_add, d_sub, d_mul, d_div, d_mod, d_cat, d_catT, c_eqI, c_neI, c_lt, c_le, c_gt, c_ge, List.map_cons, List.map_nil, List.length_cons, List.length_nil, List.getElem?_cons_zero, List.getElem?_cons_succ, List.set_cons_zero, List.set_cons_succ, List.cons_append, List.nil_append, List.append_nil, List.replicate, Nat.reduceAdd, Nat.reduceSub, Bool.true_and, Bool.and_true, Bool.false_and, Bool.and_false, Bool.true_or, Bool.or_true, Bool.false_or, Bool.or_false, Bool.not_true, Bool.not_false, if_true, if_false, Bool.false_eq_true, reduceIte, isi_ii, isi_ib]
end PyV
namespace PyV
open PySem L2
/-! ### loops, comprehensions -/
theorem loop_inv {f : Env → D → M Out} : ∀ (xs : List D) (E : Nat → Env) (i : Nat), (∀ j x, xs[j]? = some x → f (E (i + j)) x = .ok (.nx (E (i + j + 1)))) → loopM f xs (E i) = .ok (.nx (E (i + xs.length)))
  | [], E, i, _ => rfl
  | x :: xs, E, i, h => by
    show (f (E i) x).bind _ = _
    have h0 : f (E i) x = .ok (.nx (E (i + 1))) := h 0 x rfl
    rw [h0, bind_ok]
    show loopM f xs (E (i + 1)) = _
    rw [loop_inv xs E (i + 1) fun j y hj => by
      have q := h (j + 1) y (by simpa using hj)
      rw [show i + (j + 1) = i + 1 + j by omega] at q
      exact q, List.length_cons, show i + 1 + xs.length = i + (xs.length + 1) by omega]
theorem loop_rng {f : Env → D → M Out} {n : Nat} (E : Nat → Env) (h : ∀ j, j < n → f (E j) (.int (j : Nat)) = .ok (.nx (E (j + 1)))) : loopM f (rngD 0 (n : Int)) (E 0) = .ok (.nx (E n)) := by
  have q := loop_inv (f := f) (rngD 0 (n : Int)) E 0 fun j x hj => by
    have hl : j < n := by
      have := (List.getElem?_eq_some_iff.mp hj).1
      rw [rngD_len] at this
      omega
    have e := rngD_get hj
    subst e
    rw [Int.zero_add, Nat.zero_add]
    exact h j hl
  rw [rngD_len, Nat.zero_add] at q
  rw [q]
  simp
theorem compM_map {f : D → M (Option R)} {g : D → R} : ∀ {xs : List D}, (∀ x ∈ xs, f x = .ok (some (g x))) → compM f xs = .ok (xs.map g)
  | [], _ => rfl
  | x :: xs, h => by
    show (f x).bind _ = _
    rw [h x List.mem_cons_self, bind_ok, compM_map fun y hy => h y (List.mem_cons_of_mem _ hy)]
    rfl
theorem noEx_ok' {α : Type} (a : α) : noEx (.ok a) = .ok a := rfl
theorem len_lst (xs : List D) : dBlt .len [.lst xs] = .ok (.int xs.length) := rfl
theorem len_tup (xs : List D) : dBlt .len [.tup xs] = .ok (.int xs.length) := rfl
theorem len_frz (xs : List D) : dBlt .len [.frz xs] = .ok (.int xs.length) := rfl
theorem list_lst (xs : List D) : dBlt .list [.lst xs] = .ok (.lst xs) := rfl
theorem list_tup (xs : List D) : dBlt .list [.tup xs] = .ok (.lst xs) := rfl
theorem tup_lst (xs : List D) : dBlt .tuple [.lst xs] = .ok (.tup xs) := rfl
theorem tup_tup (xs : List D) : dBlt .tuple [.tup xs] = .ok (.tup xs) := rfl
theorem asOwnL_ok' {ρ : Env} {i : Nat} {xs : List D} (h : ρ[i]? = some (some (.own, .lst xs))) : asOwnL ρ i = .ok xs := by unfold asOwnL; rw [h]
theorem asOwn_ok' {ρ : Env} {i : Nat} {x : D} (h : ρ[i]? = some (some (.own, x))) : asOwn ρ i = .ok x := by unfold asOwn; rw [h]
theorem bindT_1 (n : Bool) (x : D) (ρ : Env) (i : Nat) : bindT n x ρ [i] = .ok (setE ρ i n x) := rfl
theorem setE_int (ρ : Env) (i : Nat) (n : Bool) (j : Int) : setE ρ i n (.int j) = ρ.set i (some (.new, .int j)) := rfl
theorem setE_lst (ρ : Env) (i : Nat) (n : Bool) (xs : List D) : setE ρ i n (.lst xs) = ρ.set i (some (if n then .new else .old, .lst xs)) := rfl
theorem setE_tup (ρ : Env) (i : Nat) (n : Bool) (xs : List D) : setE ρ i n (.tup xs) = ρ.set i (some (if n then .new else .old, .tup xs)) := rfl
theorem wipe_1 (ρ : Env) (i : Nat) : wipeE ρ [i] = ρ.set i none := rfl
/-! ### step by step -/
section
variable {S : Sig} {s : IS} {ss t e : ISs} {ρ ρ' : Env} {r : M Out} {d : D} {k : Kd} {c : IE} {f : Fn} {ds : List D} {x : M D}
theorem seq_step (h : evS S s ρ = .ok (.nx ρ')) (g : evSs S ss ρ' = r) : evSs S (.cons s ss) ρ = r := by
  rw [evSs, h]
  exact g
theorem seq_rt (h : evS S s ρ = .ok (.rt d)) : evSs S (.cons s ss) ρ = .ok (.rt d) := by
  rw [evSs, h]
  rfl
theorem seq_ex {c : Str} (h : evS S s ρ = .ex c) : evSs S (.cons s ss) ρ = .ex c := by
  rw [evSs, h]
  rfl
theorem seq_last {o : M Out} (h : evS S s ρ = o) : evSs S (.cons s .nil) ρ = o := by
  rw [evSs, h]
  cases o with
  | ok o => cases o <;> first | rfl | (show evSs S .nil _ = _; rw [evSs])
  | _ => rfl
theorem seq_nil : evSs S .nil ρ = .ok (.nx ρ) := by rw [evSs]
theorem if_t (h : evE S c ρ = .ok (k, .bl true)) (g : evSs S t ρ = r) : evS S (.iff c t e) ρ = r := by
  rw [evS, h]
  exact g
theorem if_f (h : evE S c ρ = .ok (k, .bl false)) (g : evSs S e ρ = r) : evS S (.iff c t e) ρ = r := by
  rw [evS, h]
  exact g
theorem if_b {b : Bool} (h : evE S c ρ = .ok (k, .bl b)) : evS S (.iff c t e) ρ = if b then evSs S t ρ else evSs S e ρ := by
  rw [evS, h]
  rfl
theorem run_rt (h : evSs S f.body (env0 f.slots ds) = .ok (.rt d)) (hl : ds.length = f.par := by rfl) : runB S f ds = .ok d := by
  unfold runB
  rw [guard_t hl, h]
  rfl
theorem run_nx {ρ' : Env} (h : evSs S f.body (env0 f.slots ds) = .ok (.nx ρ')) (hl : ds.length = f.par := by rfl) : runB S f ds = .ok .non := by
  unfold runB
  rw [guard_t hl, h]
  rfl
theorem run_ex {c : Str} (h : evSs S f.body (env0 f.slots ds) = .ex c) (hl : ds.length = f.par := by rfl) : runB S f ds = .ex c := by
  unfold runB
  rw [guard_t hl, h]
  rfl
theorem for_r1 {ts : List Nat} {a : IE} {body : ISs} {n : Nat} {kd : Kd} (h : evE S a ρ = .ok (kd, .int n)) (hn : n < 1000000) : evS S (.forr ts (.r1 a) body) ρ = loopM (fun ρ x => (bindT true x ρ ts).bind fun ρ' => evSs S body ρ') (rngD 0 n) ρ := by
  have g0 : -(2 ^ 62) ≤ (n : Int) ∧ (n : Int) < 2 ^ 62 := ⟨by omega, by omega⟩
  rw [evS, evIt, h, bind_ok]
  dsimp only
  rw [guard_t g0, bind_ok]
  exact guard_t rfl
theorem lc_r1 {ts : List Nat} {a elt cd : IE} {n : Nat} {kd : Kd} {rs : List R} (h : evE S a ρ = .ok (kd, .int n)) (hn : n < 1000000) (hts : noOwnAt ρ ts = true) (hr : noOwn rs = true)
    (g : compM (fun x => (bindT true x (wipeE ρ ts) ts).bind fun ρ' => (if isNo cd then .ok true else (evE S cd ρ').bind asB).bind fun b => if b then (evE S elt ρ').bind fun r => .ok (some r) else .ok none) (rngD 0 n) = .ok rs) :
    evE S (.lc elt ts (.r1 a) cd) ρ = .ok (.top (allNew rs), .lst (rs.map (·.2))) := by
  have g0 : -(2 ^ 62) ≤ (n : Int) ∧ (n : Int) < 2 ^ 62 := ⟨by omega, by omega⟩
  rw [evE, evIt, h, bind_ok]
  dsimp only
  rw [guard_t g0, bind_ok]
  have e : compM (fun x => (bindT (Kd.pl true).new x (wipeE ρ ts) ts).bind fun ρ' => (if isNo cd then .ok true else (evE S cd ρ').bind asB).bind fun b => if b then (evE S elt ρ').bind fun r => .ok (some r) else .ok none) (rngD 0 n) = .ok rs := g
  simp only [e, noEx_ok', bind_ok]
  exact guard_t ⟨hts, hr, by rw [rngD_len]; unfold lim; omega⟩
end
theorem mk_pt (n : Bool) (p : Pt) : mkR n p.D = (.pl n, p.D) := rfl
theorem el_pt (n : Bool) (p : Pt) : elR n p.D = (.pl n, p.D) := rfl
end PyV
namespace PyV
open PySem L2
/-! ### loops by what holds -/
theorem loop_pred {f : Env → D → M Out} (P : Nat → Env → Prop) : ∀ (xs : List D) (i : Nat) (ρ : Env), (∀ j x ρ, xs[j]? = some x → P (i + j) ρ → ∃ ρ', f ρ x = .ok (.nx ρ') ∧ P (i + j + 1) ρ') → P i ρ → ∃ ρ', loopM f xs ρ = .ok (.nx ρ') ∧ P (i + xs.length) ρ'
  | [], i, ρ, _, h => ⟨ρ, rfl, h⟩
  | x :: xs, i, ρ, h, h0 => by
    obtain ⟨ρ1, e1, p1⟩ := h 0 x ρ rfl h0
    obtain ⟨ρ2, e2, p2⟩ := loop_pred P xs (i + 1) ρ1 (fun j y ρ hj hp => by
      have q := h (j + 1) y ρ (by simpa using hj) (by rw [show i + (j + 1) = i + 1 + j by omega]; exact hp)
      rw [show i + (j + 1) + 1 = i + 1 + j + 1 by omega] at q
      exact q) p1
    refine ⟨ρ2, ?_, ?_⟩
    · show (f ρ x).bind _ = _
      rw [e1]
      exact e2
    · rw [List.length_cons, show i + (xs.length + 1) = i + 1 + xs.length by omega]
      exact p2
theorem loop_rngP {f : Env → D → M Out} {n : Nat} (P : Nat → Env → Prop) {ρ : Env} (h0 : P 0 ρ) (h : ∀ j ρ, j < n → P j ρ → ∃ ρ', f ρ (.int (j : Nat)) = .ok (.nx ρ') ∧ P (j + 1) ρ') : ∃ ρ', loopM f (rngD 0 (n : Int)) ρ = .ok (.nx ρ') ∧ P n ρ' := by
  have q := loop_pred (f := f) P (rngD 0 (n : Int)) 0 ρ (fun j x ρ hj hp => by
    have hl : j < n := by
      have := (List.getElem?_eq_some_iff.mp hj).1
      rw [rngD_len] at this
      omega
    have e := rngD_get hj
    subst e
    rw [Nat.zero_add] at hp
    rw [Int.zero_add, Nat.zero_add]
    exact h j ρ hl hp) h0
  rw [rngD_len, Nat.zero_add] at q
  simpa using q
theorem compM_ex {f : D → M (Option R)} {Q : Nat → R → Prop} : ∀ (xs : List D) (i : Nat), (∀ j x, xs[j]? = some x → ∃ r, f x = .ok (some r) ∧ Q (i + j) r) → ∃ rs, compM f xs = .ok rs ∧ rs.length = xs.length ∧ ∀ j r, rs[j]? = some r → Q (i + j) r
  | [], i, _ => ⟨[], rfl, rfl, fun j r h => by simp at h⟩
  | x :: xs, i, h => by
    obtain ⟨r, e, q⟩ := h 0 x rfl
    obtain ⟨rs, e2, l, q2⟩ := compM_ex (f := f) (Q := Q) xs (i + 1) fun j y hj => by
      have z := h (j + 1) y (by simpa using hj)
      rw [show i + (j + 1) = i + 1 + j by omega] at z
      exact z
    refine ⟨r :: rs, ?_, by rw [List.length_cons, List.length_cons, l], fun j r' hj => ?_⟩
    · show (f x).bind _ = _
      rw [e, bind_ok, e2]
      rfl
    · cases j with
      | zero => simp at hj; subst hj; exact q
      | succ j =>
        have z := q2 j r' (by simpa using hj)
        rw [show i + (j + 1) = i + 1 + j by omega]
        exact z
theorem compM_rng {f : D → M (Option R)} {n : Nat} (g : Nat → R) (h : ∀ j : Nat, j < n → f (.int j) = .ok (some (g j))) : compM f (rngD 0 (n : Int)) = .ok ((List.range n).map g) := by
  have e : rngD 0 (n : Int) = (List.range n).map fun j : Nat => D.int j := by
    unfold rngD
    rw [show ((n : Int) - 0).toNat = n by omega]
    simp
  rw [e]
  have : ∀ l : List Nat, (∀ j ∈ l, j < n) → compM f (l.map fun j : Nat => D.int j) = .ok (l.map g) := by
    intro l
    induction l with
    | nil => intro _; rfl
    | cons j l ih =>
      intro hl
      show (f (.int j)).bind _ = _
      rw [h j (hl j List.mem_cons_self), bind_ok]
      have := ih fun x hx => hl x (List.mem_cons_of_mem _ hx)
      rw [this]
      rfl
  exact this _ fun j hj => List.mem_range.mp hj
theorem noOwn_map {α : Type} (l : List α) (g : α → R) (h : ∀ a ∈ l, (g a).1.isOwn = false) : noOwn (l.map g) = true := by
  unfold noOwn
  rw [List.all_map, List.all_eq_true]
  intro a ha
  simp [h a ha]
theorem allNew_map {α : Type} (l : List α) (g : α → R) (h : ∀ a ∈ l, (g a).1.new = true) : allNew (l.map g) = true := by
  unfold allNew
  rw [List.all_map, List.all_eq_true]
  intro a ha
  simp [h a ha]
/-! ### bounds -/
def amongF : Fn := ⟨3, 3, (.cons (.ret (.bop .And (.cons (.bl .isi (.cons (.v 0) (.cons (.ty "int") .nil))) (.cons (.nt (.bl .isi (.cons (.v 0) (.cons (.ty "bool") .nil)))) (.cons (.chn .LtE .LtE (.v 1) (.v 0) (.v 2)) .nil))))) .nil)⟩
theorem run_among (S : Sig) (i lo hi : Int) : runB S amongF [.int i, .int lo, .int hi] = .ok (.bl (decide (lo ≤ i) && decide (i ≤ hi))) := by
  unfold amongF
  by_cases h : lo ≤ i
  · simp (disch := (first | trivial | omega | (simp only [true_and, and_true, lim, List.length_cons, List.length_nil, List.length_map, List.length_append] <;> first | trivial | omega) | assumption)) only [asOwn, asOwnL, runB, evSs, evS, evE, evEs, evB, evIt, isV, isNo, bind_ok, bind_ex, guard_t, env0, mk_lst, mk_dct, mk_tup, mk_frz, mk_int, mk_bl, mk_str, mk_non, el_lst, el_dct, el_tup, el_frz, el_int, el_bl, el_str, el_non, new_own, new_top, new_pl, io_own, io_top, io_pl, asB_bl, asI_int, ent_top, ent_pl, fr_own, fr_top, fr_pl, pu_int, pu_bl, pu_str, pu_non, pu_tup, pu_lst, pu_nil, pu_cons, pe_lst', no_nil, no_cons, al_nil, al_cons, od_rt, od_nx, ofO_some, d_add, d_sub, d_mul, d_div, d_mod, d_cat, d_catT, c_eqI, c_neI, c_lt, c_le, c_gt, c_ge, List.map_cons, List.map_nil, List.length_cons, List.length_nil, List.getElem?_cons_zero, List.getElem?_cons_succ, List.set_cons_zero, List.set_cons_succ, List.cons_append, List.nil_append, List.append_nil, List.replicate, Nat.reduceAdd, Nat.reduceSub, Bool.true_and, Bool.and_true, Bool.false_and, Bool.and_false, Bool.true_or, Bool.or_true, Bool.false_or, Bool.or_false, Bool.not_true, Bool.not_false, if_true, if_false, Bool.false_eq_true, reduceIte, isi_ii, isi_ib, h, decide_true]
  · simp (disch := (first | trivial | omega | (simp only [true_and, and_true, lim, List.length_cons, List.length_nil, List.length_map, List.length_append] <;> first | trivial | omega) | assumption)) only [asOwn, asOwnL, runB, evSs, evS, evE, evEs, evB, evIt, isV, isNo, bind_ok, bind_ex, guard_t, env0, mk_lst, mk_dct, mk_tup, mk_frz, mk_int, mk_bl, mk_str, mk_non, el_lst, el_dct, el_tup, el_frz, el_int, el_bl, el_str, el_non, new_own, new_top, new_pl, io_own, io_top, io_pl, asB_bl, asI_int, ent_top, ent_pl, fr_own, fr_top, fr_pl, pu_int, pu_bl, pu_str, pu_non, pu_tup, pu_lst, pu_nil, pu_cons, pe_lst', no_nil, no_cons, al_nil, al_cons, od_rt, od_nx, ofO_some, d_add, d_sub, d_mul, d_div, d_mod, d_cat, d_catT, c_eqI, c_neI, c_lt, c_le, c_gt, c_ge, List.map_cons, List.map_nil, List.length_cons, List.length_nil, List.getElem?_cons_zero, List.getElem?_cons_succ, List.set_cons_zero, List.set_cons_succ, List.cons_append, List.nil_append, List.append_nil, List.replicate, Nat.reduceAdd, Nat.reduceSub, Bool.true_and, Bool.and_true, Bool.false_and, Bool.and_false, Bool.true_or, Bool.or_true, Bool.false_or, Bool.or_false, Bool.not_true, Bool.not_false, if_true, if_false, Bool.false_eq_true, reduceIte, isi_ii, isi_ib, h, decide_false]
theorem isi_tt (xs : List D) : dBlt .isi [.tup xs, .opq (.ty "tuple")] = .ok (.bl true) := by
  simp only [dBlt, dIsi, tyName]
  have : kitB "tuple" "tuple" = some true := by decide +kernel
  rw [this]
theorem isi_ll (xs : List D) : dBlt .isi [.lst xs, .opq (.ty "list")] = .ok (.bl true) := by
  simp only [dBlt, dIsi, tyName]
  have : kitB "list" "list" = some true := by decide +kernel
  rw [this]
/-- a work -/
structure Wk where
  ring : Int
  inp : Nat
  parts : List Pt
def Wk.D (w : Wk) : PyV.D := .tup [.int w.ring, .int w.inp, .lst (w.parts.map Pt.D)]
structure Wk.ok (w : Wk) : Prop where
  r2 : 2 ≤ w.ring
  r5 : w.ring ≤ 5
  i1 : 1 ≤ w.inp
  i6 : w.inp ≤ 6
  p1 : 1 ≤ w.parts.length
  p10 : w.parts.length ≤ 10
  at_ : ∀ (k : Nat) (p : Pt), w.parts[k]? = some p → p.ok (w.inp + k)
theorem ixw0 (w : Wk) : dIx w.D (.int 0) = .ok (.int w.ring) := rfl
theorem ixw1 (w : Wk) : dIx w.D (.int 1) = .ok (.int w.inp) := rfl
theorem ixw2 (w : Wk) : dIx w.D (.int 2) = .ok (.lst (w.parts.map Pt.D)) := rfl
theorem lc_sq {S : Sig} {ρ : Env} {ts : List Nat} {a elt cd : IE} {kd : Kd} {x : D} {xs : List D} {rs : List R} (h : evE S a ρ = .ok (kd, x)) (hx : itemsOf x = some xs) (hn : xs.length < 1000000) (hts : noOwnAt ρ ts = true) (hr : noOwn rs = true)
    (g : compM (fun x => (bindT kd.new x (wipeE ρ ts) ts).bind fun ρ' => (if isNo cd then .ok true else (evE S cd ρ').bind asB).bind fun b => if b then (evE S elt ρ').bind fun r => .ok (some r) else .ok none) xs = .ok rs) :
    evE S (.lc elt ts (.sq a) cd) ρ = .ok (.top (allNew rs), .lst (rs.map (·.2))) := by
  rw [evE, evIt, h, bind_ok]
  dsimp only
  rw [hx]
  dsimp only
  rw [bind_ok]
  simp only [g, noEx_ok', bind_ok]
  exact guard_t ⟨hts, hr, hn⟩
theorem all_t {bs : List Bool} (h : bs.all id = true) : dBlt .all [.lst (bs.map D.bl)] = .ok (.bl true) := by
  have e : blsD (bs.map D.bl) = some bs := by
    induction bs with
    | nil => rfl
    | cons b bs ih =>
      have h' := (Bool.and_eq_true_iff.mp (show (id b && bs.all id) = true by simpa using h)).2
      show (blsD (bs.map D.bl)).map (b :: ·) = _
      rw [ih h']
      rfl
  show (match blsD (bs.map D.bl) with
    | some bs => M.ok (D.bl (bs.all id))
    | none => .stuck) = _
  rw [e]
  simp only [h]
def needF (ia : Nat) : Fn := ⟨2, 3, (.cons (.iff (.bop .Or (.cons (.nt (.bl .isi (.cons (.v 1) (.cons (.ty "tuple") .nil)))) (.cons (.cmp .NotEq (.bl .len (.cons (.v 1) .nil)) (.ix (.v 0) (.ki 1))) .nil))) (.cons (.rai "BadGiven") .nil) .nil) (.cons (.iff (.nt (.bl .all (.cons (.lc (.call ia (.cons (.v 2) (.cons (.ki 0) (.cons (.bin .Sub (.ix (.v 0) (.ki 0)) (.ki 1)) .nil)))) [2] (.sq (.v 1)) .no) .nil))) (.cons (.rai "BadGiven") .nil) .nil) (.cons (.ret (.kb true)) .nil)))⟩
theorem run_need (S : Sig) (ia : Nat) (hS : ∀ i lo hi : Int, S.call ia [.int i, .int lo, .int hi] = .ok (.bl (decide (lo ≤ i) && decide (i ≤ hi)))) {w : Wk} (hw : w.ok) {gs : List Int} (hl : gs.length = w.inp) (hg : ∀ g ∈ gs, 0 ≤ g ∧ g < w.ring) :
    runB S (needF ia) [w.D, .tup (gs.map D.int)] = .ok (.bl true) := by
  have h6 := hw.i6
  unfold needF
  refine run_rt ?_
  apply seq_step
  · apply if_f (k := .pl true)
    · simp (disch := (first | trivial | omega | (simp only [true_and, and_true, lim, List.length_cons, List.length_nil, List.length_map, List.length_append] <;> first | trivial | omega) | assumption)) only [asOwn, asOwnL, runB, evSs, evS, evE, evEs, evB, evIt, isV, isNo, bind_ok, bind_ex, guard_t, env0, mk_lst, mk_dct, mk_tup, mk_frz, mk_int, mk_bl, mk_str, mk_non, el_lst, el_dct, el_tup, el_frz, el_int, el_bl, el_str, el_non, new_own, new_top, new_pl, io_own, io_top, io_pl, asB_bl, asI_int, ent_top, ent_pl, fr_own, fr_top, fr_pl, pu_int, pu_bl, pu_str, pu_non, pu_tup, pu_lst, pu_nil, pu_cons, pe_lst', no_nil, no_cons, al_nil, al_cons, od_rt, od_nx, ofO_some, d_add, d_sub, d_mul, d_div, d_mod, d_cat, d_catT, c_eqI, c_neI, c_lt, c_le, c_gt, c_ge, List.map_cons, List.map_nil, List.length_cons, List.length_nil, List.getElem?_cons_zero, List.getElem?_cons_succ, List.set_cons_zero, List.set_cons_succ, List.cons_append, List.nil_append, List.append_nil, List.replicate, Nat.reduceAdd, Nat.reduceSub, Bool.true_and, Bool.and_true, Bool.false_and, Bool.and_false, Bool.true_or, Bool.or_true, Bool.false_or, Bool.or_false, Bool.not_true, Bool.not_false, if_true, if_false, Bool.false_eq_true, reduceIte, isi_tt, len_tup, ixw1, List.length_map, hl, decide_true, eq_self]
    · exact seq_nil
  apply seq_step
  · apply if_f (k := .pl true)
    · rw [evE, evE, evEs, lc_sq (kd := .pl false) (x := .tup (gs.map D.int)) (xs := gs.map D.int) (rs := (gs.map D.int).map fun _ => (.pl true, .bl true)) (by simp (disch := (first | trivial | omega | (simp only [true_and, and_true, lim, List.length_cons, List.length_nil, List.length_map, List.length_append] <;> first | trivial | omega) | assumption)) only [asOwn, asOwnL, runB, evSs, evS, evE, evEs, evB, evIt, isV, isNo, bind_ok, bind_ex, guard_t, env0, mk_lst, mk_dct, mk_tup, mk_frz, mk_int, mk_bl, mk_str, mk_non, el_lst, el_dct, el_tup, el_frz, el_int, el_bl, el_str, el_non, new_own, new_top, new_pl, io_own, io_top, io_pl, asB_bl, asI_int, ent_top, ent_pl, fr_own, fr_top, fr_pl, pu_int, pu_bl, pu_str, pu_non, pu_tup, pu_lst, pu_nil, pu_cons, pe_lst', no_nil, no_cons, al_nil, al_cons, od_rt, od_nx, ofO_some, d_add, d_sub, d_mul, d_div, d_mod, d_cat, d_catT, c_eqI, c_neI, c_lt, c_le, c_gt, c_ge, List.map_cons, List.map_nil, List.length_cons, List.length_nil, List.getElem?_cons_zero, List.getElem?_cons_succ, List.set_cons_zero, List.set_cons_succ, List.cons_append, List.nil_append, List.append_nil, List.replicate, Nat.reduceAdd, Nat.reduceSub, Bool.true_and, Bool.and_true, Bool.false_and, Bool.and_false, Bool.true_or, Bool.or_true, Bool.false_or, Bool.or_false, Bool.not_true, Bool.not_false, if_true, if_false, Bool.false_eq_true, reduceIte]) rfl (by rw [List.length_map]; omega) rfl (noOwn_map _ _ fun _ _ => rfl) (compM_map fun x hx => ?_)]
      · have e : ((gs.map D.int).map fun _ => ((Kd.pl true, D.bl true) : R)).map (·.2) = (List.replicate gs.length true).map D.bl := by
          rw [List.map_map, List.map_map, List.map_replicate]
          rw [List.map_eq_replicate_iff]
          intro _ _
          rfl
        rw [e]
        have ha := all_t (bs := List.replicate gs.length true) (by simp)
        simp (disch := (first | trivial | omega | (simp only [true_and, and_true, lim, List.length_cons, List.length_nil, List.length_map, List.length_append] <;> first | trivial | omega) | assumption)) only [asOwn, asOwnL, runB, evSs, evS, evE, evEs, evB, evIt, isV, isNo, bind_ok, bind_ex, guard_t, env0, mk_lst, mk_dct, mk_tup, mk_frz, mk_int, mk_bl, mk_str, mk_non, el_lst, el_dct, el_tup, el_frz, el_int, el_bl, el_str, el_non, new_own, new_top, new_pl, io_own, io_top, io_pl, asB_bl, asI_int, ent_top, ent_pl, fr_own, fr_top, fr_pl, pu_int, pu_bl, pu_str, pu_non, pu_tup, pu_lst, pu_nil, pu_cons, pe_lst', no_nil, no_cons, al_nil, al_cons, od_rt, od_nx, ofO_some, d_add, d_sub, d_mul, d_div, d_mod, d_cat, d_catT, c_eqI, c_neI, c_lt, c_le, c_gt, c_ge, List.map_cons, List.map_nil, List.length_cons, List.length_nil, List.getElem?_cons_zero, List.getElem?_cons_succ, List.set_cons_zero, List.set_cons_succ, List.cons_append, List.nil_append, List.append_nil, List.replicate, Nat.reduceAdd, Nat.reduceSub, Bool.true_and, Bool.and_true, Bool.false_and, Bool.and_false, Bool.true_or, Bool.or_true, Bool.false_or, Bool.or_false, Bool.not_true, Bool.not_false, if_true, if_false, Bool.false_eq_true, reduceIte, ha]
      · obtain ⟨g, hm, rfl⟩ := List.mem_map.mp hx
        obtain ⟨g1, g2⟩ := hg g hm
        have e1 : decide (0 ≤ g) = true := decide_eq_true g1
        have e2 : decide (g ≤ w.ring - 1) = true := decide_eq_true (by omega)
        simp (disch := (first | trivial | omega | (simp only [true_and, and_true, lim, List.length_cons, List.length_nil, List.length_map, List.length_append] <;> first | trivial | omega) | assumption)) only [asOwn, asOwnL, runB, evSs, evS, evE, evEs, evB, evIt, isV, isNo, bind_ok, bind_ex, guard_t, env0, mk_lst, mk_dct, mk_tup, mk_frz, mk_int, mk_bl, mk_str, mk_non, el_lst, el_dct, el_tup, el_frz, el_int, el_bl, el_str, el_non, new_own, new_top, new_pl, io_own, io_top, io_pl, asB_bl, asI_int, ent_top, ent_pl, fr_own, fr_top, fr_pl, pu_int, pu_bl, pu_str, pu_non, pu_tup, pu_lst, pu_nil, pu_cons, pe_lst', no_nil, no_cons, al_nil, al_cons, od_rt, od_nx, ofO_some, d_add, d_sub, d_mul, d_div, d_mod, d_cat, d_catT, c_eqI, c_neI, c_lt, c_le, c_gt, c_ge, List.map_cons, List.map_nil, List.length_cons, List.length_nil, List.getElem?_cons_zero, List.getElem?_cons_succ, List.set_cons_zero, List.set_cons_succ, List.cons_append, List.nil_append, List.append_nil, List.replicate, Nat.reduceAdd, Nat.reduceSub, Bool.true_and, Bool.and_true, Bool.false_and, Bool.and_false, Bool.true_or, Bool.or_true, Bool.false_or, Bool.or_false, Bool.not_true, Bool.not_false, if_true, if_false, Bool.false_eq_true, reduceIte, bindT_1, setE_int, wipe_1, ixw0, hS, e1, e2]
    · exact seq_nil
  apply seq_rt
  simp (disch := (first | trivial | omega | (simp only [true_and, and_true, lim, List.length_cons, List.length_nil, List.length_map, List.length_append] <;> first | trivial | omega) | assumption)) only [asOwn, asOwnL, runB, evSs, evS, evE, evEs, evB, evIt, isV, isNo, bind_ok, bind_ex, guard_t, env0, mk_lst, mk_dct, mk_tup, mk_frz, mk_int, mk_bl, mk_str, mk_non, el_lst, el_dct, el_tup, el_frz, el_int, el_bl, el_str, el_non, new_own, new_top, new_pl, io_own, io_top, io_pl, asB_bl, asI_int, ent_top, ent_pl, fr_own, fr_top, fr_pl, pu_int, pu_bl, pu_str, pu_non, pu_tup, pu_lst, pu_nil, pu_cons, pe_lst', no_nil, no_cons, al_nil, al_cons, od_rt, od_nx, ofO_some, d_add, d_sub, d_mul, d_div, d_mod, d_cat, d_catT, c_eqI, c_neI, c_lt, c_le, c_gt, c_ge, List.map_cons, List.map_nil, List.length_cons, List.length_nil, List.getElem?_cons_zero, List.getElem?_cons_succ, List.set_cons_zero, List.set_cons_succ, List.cons_append, List.nil_append, List.append_nil, List.replicate, Nat.reduceAdd, Nat.reduceSub, Bool.true_and, Bool.and_true, Bool.false_and, Bool.and_false, Bool.true_or, Bool.or_true, Bool.false_or, Bool.or_false, Bool.not_true, Bool.not_false, if_true, if_false, Bool.false_eq_true, reduceIte]
end PyV
namespace PyV
open PySem L2
/-! ### a run -/
section
variable {S : Sig} {ρ : Env} {kd : Kd} {a : IE} {ts : List Nat} {body : ISs}
theorem for_en {xs : List D} (h : evE S a ρ = .ok (kd, .lst xs)) (hk : kd.isOwn = false) : evS S (.forr ts (.en a) body) ρ = loopM (fun ρ x => (bindT kd.new x ρ ts).bind fun ρ' => evSs S body ρ') (enumD xs) ρ := by
  rw [evS, evIt, h, bind_ok]
  show (M.ok (kd, enumD xs)).bind _ = _
  rw [bind_ok]
  exact guard_t hk
theorem for_sq {x : D} {xs : List D} (h : evE S a ρ = .ok (kd, x)) (hx : itemsOf x = some xs) (hk : kd.isOwn = false) : evS S (.forr ts (.sq a) body) ρ = loopM (fun ρ x => (bindT kd.new x ρ ts).bind fun ρ' => evSs S body ρ') xs ρ := by
  rw [evS, evIt, h, bind_ok]
  dsimp only
  rw [hx]
  dsimp only
  rw [bind_ok]
  exact guard_t hk
theorem bindT_2 (n : Bool) (x y : D) (ρ : Env) (i j : Nat) : bindT n (.prs [x, y]) ρ [i, j] = .ok (setE (setE ρ i n x) j n y) := by
  exact guard_t (p := [x, y].length = [i, j].length) rfl
theorem setE_pt (ρ : Env) (i : Nat) (n : Bool) (p : Pt) : setE ρ i n p.D = ρ.set i (some (if n then .new else .old, p.D)) := rfl
end
def tK (t : List (Int × Int)) : List (Key × D) := t.map fun p => (.inl p.1, .int p.2)
def tD (t : List (Int × Int)) : D := .dct (tK t)
def lookI (t : List (Int × Int)) (k : Int) : Option Int := (t.find? fun p => decide (p.1 = k)).map (·.2)
theorem look_t (k : Int) : ∀ t : List (Int × Int), lookD (tK t) (.inl k) = (lookI t k).map D.int
  | [] => rfl
  | p :: t => by
    unfold tK lookD lookI
    rw [List.map_cons, List.find?_cons, List.find?_cons]
    by_cases h : p.1 = k
    · subst h; simp
    · have h' : (Sum.inl p.1 : Key) ≠ .inl k := fun z => h (Sum.inl.inj z)
      simp only [decide_eq_false h, decide_eq_false h']
      exact look_t k t
theorem in_t (t : List (Int × Int)) (k : Int) : dCmp .In (.int k) (tD t) = .ok (.bl (lookI t k).isSome) := by
  show M.ok (D.bl (lookD (tK t) (.inl k)).isSome) = _
  rw [look_t]
  cases lookI t k <;> rfl
theorem ix_t {t : List (Int × Int)} {k v : Int} (h : lookI t k = some v) : dIx (tD t) (.int k) = .ok (.int v) := by
  show ofO (lookD (tK t) (.inl k)) = _
  rw [look_t, h]
  rfl
/-- the digit of a part: as told, else as it should -/
def ruleI (ring : Int) (t : List (Int × Int)) (k : Nat) (p : Pt) (ds : List Int) : Int := (lookI t k).getD (p.val ring ds)
def ranI (ring : Int) (t : List (Int × Int)) : Nat → List Pt → List Int → List Int
  | _, [], ds => ds
  | k, p :: ps, ds => ranI ring t (k + 1) ps (ds ++ [ruleI ring t k p ds])
theorem ranI_app (ring : Int) (t : List (Int × Int)) : ∀ (ps qs : List Pt) (k : Nat) (ds : List Int), ranI ring t k (ps ++ qs) ds = ranI ring t (k + ps.length) qs (ranI ring t k ps ds)
  | [], qs, k, ds => rfl
  | p :: ps, qs, k, ds => by
    show ranI ring t (k + 1) (ps ++ qs) _ = _
    rw [ranI_app ring t ps qs (k + 1), List.length_cons, show k + 1 + ps.length = k + (ps.length + 1) by omega]
    rfl
theorem ranI_len (ring : Int) (t : List (Int × Int)) : ∀ (ps : List Pt) (k : Nat) (ds : List Int), (ranI ring t k ps ds).length = ds.length + ps.length
  | [], k, ds => rfl
  | p :: ps, k, ds => by
    show (ranI ring t (k + 1) ps _).length = _
    rw [ranI_len ring t ps (k + 1), List.length_append, List.length_cons, List.length_cons]
    simp
    omega
theorem ranI_take (ring : Int) (t : List (Int × Int)) {ps : List Pt} {i : Nat} {p : Pt} (h : ps[i]? = some p) (ds : List Int) : ranI ring t 0 (ps.take (i + 1)) ds = ranI ring t 0 (ps.take i) ds ++ [ruleI ring t i p (ranI ring t 0 (ps.take i) ds)] := by
  have hi : i < ps.length := (List.getElem?_eq_some_iff.mp h).1
  rw [List.take_add_one, h, ranI_app, List.length_take, show 0 + min i ps.length = i by omega]
  rfl
def ranF (nd gv : Nat) : Fn := ⟨3, 6, (.cons (.exp (.call nd (.cons (.v 0) (.cons (.v 1) .nil)))) (.cons (.set 3 true (.bl .list (.cons (.v 1) .nil))) (.cons (.forr [4, 5] (.en (.ix (.v 0) (.ki 2))) (.cons (.iff (.cmp .In (.v 4) (.v 2)) (.cons (.app 3 (.ix (.v 2) (.v 4))) .nil) (.cons (.app 3 (.call gv (.cons (.v 5) (.cons (.v 3) (.cons (.ix (.v 0) (.ki 0)) .nil))))) .nil)) .nil)) (.cons (.ret (.v 3)) .nil))))⟩
theorem pureL_ints (gs : List Int) : pureL (gs.map D.int) = true := by
  induction gs with
  | nil => rfl
  | cons g gs ih => exact ih
theorem run_ran (S : Sig) (nd gv : Nat) {w : Wk} (hw : w.ok) {gs : List Int} (hl : gs.length = w.inp) (t : List (Int × Int)) (hn : S.call nd [w.D, .tup (gs.map D.int)] = .ok (.bl true))
    (hg : ∀ (p : Pt) (ds : List Int), p.ok ds.length → S.call gv [p.D, .lst (ds.map D.int), .int w.ring] = .ok (.int (p.val w.ring ds))) :
    runB S (ranF nd gv) [w.D, .tup (gs.map D.int), tD t] = .ok (.lst ((ranI w.ring t 0 w.parts gs).map D.int)) := by
  have h6 := hw.i6
  have h10 := hw.p10
  unfold ranF
  refine run_rt ?_
  (apply seq_step; focus (simp (disch := (first | trivial | omega | (simp only [true_and, and_true, lim, List.length_cons, List.length_nil, List.length_map, List.length_append] <;> first | trivial | omega) | assumption)) only [asOwn, asOwnL, runB, evSs, evS, evE, evEs, evB, evIt, isV, isNo, bind_ok, bind_ex, guard_t, env0, mk_lst, mk_dct, mk_tup, mk_frz, mk_int, mk_bl, mk_str, mk_non, el_lst, el_dct, el_tup, el_frz, el_int, el_bl, el_str, el_non, new_own, new_top, new_pl, io_own, io_top, io_pl, asB_bl, asI_int, ent_top, ent_pl, fr_own, fr_top, fr_pl, pu_int, pu_bl, pu_str, pu_non, pu_tup, pu_lst, pu_nil, pu_cons, pe_lst', no_nil, no_cons, al_nil, al_cons, od_rt, od_nx, ofO_some, d_add, d_sub, d_mul, d_div, d_mod, d_cat, d_catT, c_eqI, c_neI, c_lt, c_le, c_gt, c_ge, List.map_cons, List.map_nil, List.length_cons, List.length_nil, List.getElem?_cons_zero, List.getElem?_cons_succ, List.set_cons_zero, List.set_cons_succ, List.cons_append, List.nil_append, List.append_nil, List.replicate, Nat.reduceAdd, Nat.reduceSub, Bool.true_and, Bool.and_true, Bool.false_and, Bool.and_false, Bool.true_or, Bool.or_true, Bool.false_or, Bool.or_false, Bool.not_true, Bool.not_false, if_true, if_false, Bool.false_eq_true, reduceIte, hn]; exact rfl))
  have hp := pureL_ints gs
  (apply seq_step; focus (simp (disch := (first | trivial | omega | (simp only [true_and, and_true, lim, List.length_cons, List.length_nil, List.length_map, List.length_append] <;> first | trivial | omega) | assumption)) only [asOwn, asOwnL, runB, evSs, evS, evE, evEs, evB, evIt, isV, isNo, bind_ok, bind_ex, guard_t, env0, mk_lst, mk_dct, mk_tup, mk_frz, mk_int, mk_bl, mk_str, mk_non, el_lst, el_dct, el_tup, el_frz, el_int, el_bl, el_str, el_non, new_own, new_top, new_pl, io_own, io_top, io_pl, asB_bl, asI_int, ent_top, ent_pl, fr_own, fr_top, fr_pl, pu_int, pu_bl, pu_str, pu_non, pu_tup, pu_lst, pu_nil, pu_cons, pe_lst', no_nil, no_cons, al_nil, al_cons, od_rt, od_nx, ofO_some, d_add, d_sub, d_mul, d_div, d_mod, d_cat, d_catT, c_eqI, c_neI, c_lt, c_le, c_gt, c_ge, List.map_cons, List.map_nil, List.length_cons, List.length_nil, List.getElem?_cons_zero, List.getElem?_cons_succ, List.set_cons_zero, List.set_cons_succ, List.cons_append, List.nil_append, List.append_nil, List.replicate, Nat.reduceAdd, Nat.reduceSub, Bool.true_and, Bool.and_true, Bool.false_and, Bool.and_false, Bool.true_or, Bool.or_true, Bool.false_or, Bool.or_false, Bool.not_true, Bool.not_false, if_true, if_false, Bool.false_eq_true, reduceIte, list_tup, hp]; exact rfl))
  obtain ⟨ρ', e, s4, s5, rfl, _⟩ := loop_pred (f := fun ρ x => (bindT (Kd.pl false).new x ρ [4, 5]).bind fun ρ' => evSs S (.cons (.iff (.cmp .In (.v 4) (.v 2)) (.cons (.app 3 (.ix (.v 2) (.v 4))) .nil) (.cons (.app 3 (.call gv (.cons (.v 5) (.cons (.v 3) (.cons (.ix (.v 0) (.ki 0)) .nil))))) .nil)) .nil) ρ')
    (fun i ρ => ∃ s4 s5, ρ = [some (.old, w.D), some (.old, .tup (gs.map D.int)), some (.old, tD t), some (.own, .lst ((ranI w.ring t 0 (w.parts.take i) gs).map D.int)), s4, s5] ∧ True) (enumD (w.parts.map Pt.D)) 0
    [some (.old, w.D), some (.old, .tup (gs.map D.int)), some (.old, tD t), some (.own, .lst (gs.map D.int)), none, none] (by
    rintro j x ρ hj ⟨s4, s5, rfl, _⟩
    obtain ⟨y, hy, rfl⟩ := enum_get hj
    rw [List.getElem?_map] at hy
    cases hq : w.parts[j]? with
    | none => rw [hq] at hy; cases hy
    | some p =>
      rw [hq] at hy
      cases hy
      have hjl : j < w.parts.length := (List.getElem?_eq_some_iff.mp hq).1
      have hlen : (ranI w.ring t 0 (w.parts.take j) gs).length = w.inp + j := by rw [ranI_len, List.length_take, hl]; omega
      have pok : p.ok (ranI w.ring t 0 (w.parts.take j) gs).length := by rw [hlen]; exact hw.at_ j p hq
      have hgv := hg p _ pok
      rw [Nat.zero_add, ranI_take w.ring t hq]
      refine ⟨_, ?_, some (.new, .int j), some (.old, p.D), rfl, trivial⟩
      rw [bindT_2, bind_ok, setE_int, setE_pt]
      refine seq_last ?_
      cases ht : lookI t (j : Int) with
      | some v =>
        have e1 := in_t t j
        rw [ht] at e1
        have e2 := ix_t ht
        have hr : ruleI w.ring t j p (ranI w.ring t 0 (w.parts.take j) gs) = v := by unfold ruleI; rw [ht]; rfl
        rw [hr, List.map_append]
        refine if_t (k := .pl true) ?_ (seq_last ?_)
        · simp (disch := (first | trivial | omega | (simp only [true_and, and_true, lim, List.length_cons, List.length_nil, List.length_map, List.length_append] <;> first | trivial | omega) | assumption)) only [asOwn, asOwnL, runB, evSs, evS, evE, evEs, evB, evIt, isV, isNo, bind_ok, bind_ex, guard_t, env0, mk_lst, mk_dct, mk_tup, mk_frz, mk_int, mk_bl, mk_str, mk_non, el_lst, el_dct, el_tup, el_frz, el_int, el_bl, el_str, el_non, new_own, new_top, new_pl, io_own, io_top, io_pl, asB_bl, asI_int, ent_top, ent_pl, fr_own, fr_top, fr_pl, pu_int, pu_bl, pu_str, pu_non, pu_tup, pu_lst, pu_nil, pu_cons, pe_lst', no_nil, no_cons, al_nil, al_cons, od_rt, od_nx, ofO_some, d_add, d_sub, d_mul, d_div, d_mod, d_cat, d_catT, c_eqI, c_neI, c_lt, c_le, c_gt, c_ge, List.map_cons, List.map_nil, List.length_cons, List.length_nil, List.getElem?_cons_zero, List.getElem?_cons_succ, List.set_cons_zero, List.set_cons_succ, List.cons_append, List.nil_append, List.append_nil, List.replicate, Nat.reduceAdd, Nat.reduceSub, Bool.true_and, Bool.and_true, Bool.false_and, Bool.and_false, Bool.true_or, Bool.or_true, Bool.false_or, Bool.or_false, Bool.not_true, Bool.not_false, if_true, if_false, Bool.false_eq_true, reduceIte, e1, Option.isSome_some]
        · simp (disch := (first | trivial | omega | (simp only [true_and, and_true, lim, List.length_cons, List.length_nil, List.length_map, List.length_append] <;> first | trivial | omega) | assumption)) only [asOwn, asOwnL, runB, evSs, evS, evE, evEs, evB, evIt, isV, isNo, bind_ok, bind_ex, guard_t, env0, mk_lst, mk_dct, mk_tup, mk_frz, mk_int, mk_bl, mk_str, mk_non, el_lst, el_dct, el_tup, el_frz, el_int, el_bl, el_str, el_non, new_own, new_top, new_pl, io_own, io_top, io_pl, asB_bl, asI_int, ent_top, ent_pl, fr_own, fr_top, fr_pl, pu_int, pu_bl, pu_str, pu_non, pu_tup, pu_lst, pu_nil, pu_cons, pe_lst', no_nil, no_cons, al_nil, al_cons, od_rt, od_nx, ofO_some, d_add, d_sub, d_mul, d_div, d_mod, d_cat, d_catT, c_eqI, c_neI, c_lt, c_le, c_gt, c_ge, List.map_cons, List.map_nil, List.length_cons, List.length_nil, List.getElem?_cons_zero, List.getElem?_cons_succ, List.set_cons_zero, List.set_cons_succ, List.cons_append, List.nil_append, List.append_nil, List.replicate, Nat.reduceAdd, Nat.reduceSub, Bool.true_and, Bool.and_true, Bool.false_and, Bool.and_false, Bool.true_or, Bool.or_true, Bool.false_or, Bool.or_false, Bool.not_true, Bool.not_false, if_true, if_false, Bool.false_eq_true, reduceIte, e2]
      | none =>
        have e1 := in_t t j
        rw [ht] at e1
        have hr : ruleI w.ring t j p (ranI w.ring t 0 (w.parts.take j) gs) = p.val w.ring (ranI w.ring t 0 (w.parts.take j) gs) := by unfold ruleI; rw [ht]; rfl
        rw [hr, List.map_append]
        refine if_f (k := .pl true) ?_ (seq_last ?_)
        · simp (disch := (first | trivial | omega | (simp only [true_and, and_true, lim, List.length_cons, List.length_nil, List.length_map, List.length_append] <;> first | trivial | omega) | assumption)) only [asOwn, asOwnL, runB, evSs, evS, evE, evEs, evB, evIt, isV, isNo, bind_ok, bind_ex, guard_t, env0, mk_lst, mk_dct, mk_tup, mk_frz, mk_int, mk_bl, mk_str, mk_non, el_lst, el_dct, el_tup, el_frz, el_int, el_bl, el_str, el_non, new_own, new_top, new_pl, io_own, io_top, io_pl, asB_bl, asI_int, ent_top, ent_pl, fr_own, fr_top, fr_pl, pu_int, pu_bl, pu_str, pu_non, pu_tup, pu_lst, pu_nil, pu_cons, pe_lst', no_nil, no_cons, al_nil, al_cons, od_rt, od_nx, ofO_some, d_add, d_sub, d_mul, d_div, d_mod, d_cat, d_catT, c_eqI, c_neI, c_lt, c_le, c_gt, c_ge, List.map_cons, List.map_nil, List.length_cons, List.length_nil, List.getElem?_cons_zero, List.getElem?_cons_succ, List.set_cons_zero, List.set_cons_succ, List.cons_append, List.nil_append, List.append_nil, List.replicate, Nat.reduceAdd, Nat.reduceSub, Bool.true_and, Bool.and_true, Bool.false_and, Bool.and_false, Bool.true_or, Bool.or_true, Bool.false_or, Bool.or_false, Bool.not_true, Bool.not_false, if_true, if_false, Bool.false_eq_true, reduceIte, e1, Option.isSome_none]
        · simp (disch := (first | trivial | omega | (simp only [true_and, and_true, lim, List.length_cons, List.length_nil, List.length_map, List.length_append] <;> first | trivial | omega) | assumption)) only [asOwn, asOwnL, runB, evSs, evS, evE, evEs, evB, evIt, isV, isNo, bind_ok, bind_ex, guard_t, env0, mk_lst, mk_dct, mk_tup, mk_frz, mk_int, mk_bl, mk_str, mk_non, el_lst, el_dct, el_tup, el_frz, el_int, el_bl, el_str, el_non, new_own, new_top, new_pl, io_own, io_top, io_pl, asB_bl, asI_int, ent_top, ent_pl, fr_own, fr_top, fr_pl, pu_int, pu_bl, pu_str, pu_non, pu_tup, pu_lst, pu_nil, pu_cons, pe_lst', no_nil, no_cons, al_nil, al_cons, od_rt, od_nx, ofO_some, d_add, d_sub, d_mul, d_div, d_mod, d_cat, d_catT, c_eqI, c_neI, c_lt, c_le, c_gt, c_ge, List.map_cons, List.map_nil, List.length_cons, List.length_nil, List.getElem?_cons_zero, List.getElem?_cons_succ, List.set_cons_zero, List.set_cons_succ, List.cons_append, List.nil_append, List.append_nil, List.replicate, Nat.reduceAdd, Nat.reduceSub, Bool.true_and, Bool.and_true, Bool.false_and, Bool.and_false, Bool.true_or, Bool.or_true, Bool.false_or, Bool.or_false, Bool.not_true, Bool.not_false, if_true, if_false, Bool.false_eq_true, reduceIte, ixw0, hgv]) ⟨none, none, rfl, trivial⟩
  apply seq_step
  · rw [for_en (kd := .pl false) (xs := w.parts.map Pt.D) (by simp (disch := (first | trivial | omega | (simp only [true_and, and_true, lim, List.length_cons, List.length_nil, List.length_map, List.length_append] <;> first | trivial | omega) | assumption)) only [asOwn, asOwnL, runB, evSs, evS, evE, evEs, evB, evIt, isV, isNo, bind_ok, bind_ex, guard_t, env0, mk_lst, mk_dct, mk_tup, mk_frz, mk_int, mk_bl, mk_str, mk_non, el_lst, el_dct, el_tup, el_frz, el_int, el_bl, el_str, el_non, new_own, new_top, new_pl, io_own, io_top, io_pl, asB_bl, asI_int, ent_top, ent_pl, fr_own, fr_top, fr_pl, pu_int, pu_bl, pu_str, pu_non, pu_tup, pu_lst, pu_nil, pu_cons, pe_lst', no_nil, no_cons, al_nil, al_cons, od_rt, od_nx, ofO_some, d_add, d_sub, d_mul, d_div, d_mod, d_cat, d_catT, c_eqI, c_neI, c_lt, c_le, c_gt, c_ge, List.map_cons, List.map_nil, List.length_cons, List.length_nil, List.getElem?_cons_zero, List.getElem?_cons_succ, List.set_cons_zero, List.set_cons_succ, List.cons_append, List.nil_append, List.append_nil, List.replicate, Nat.reduceAdd, Nat.reduceSub, Bool.true_and, Bool.and_true, Bool.false_and, Bool.and_false, Bool.true_or, Bool.or_true, Bool.false_or, Bool.or_false, Bool.not_true, Bool.not_false, if_true, if_false, Bool.false_eq_true, reduceIte, ixw2]) rfl]
    exact e
  apply seq_rt
  rw [Nat.zero_add, enum_len, List.length_map, List.take_length]
  simp (disch := (first | trivial | omega | (simp only [true_and, and_true, lim, List.length_cons, List.length_nil, List.length_map, List.length_append] <;> first | trivial | omega) | assumption)) only [asOwn, asOwnL, runB, evSs, evS, evE, evEs, evB, evIt, isV, isNo, bind_ok, bind_ex, guard_t, env0, mk_lst, mk_dct, mk_tup, mk_frz, mk_int, mk_bl, mk_str, mk_non, el_lst, el_dct, el_tup, el_frz, el_int, el_bl, el_str, el_non, new_own, new_top, new_pl, io_own, io_top, io_pl, asB_bl, asI_int, ent_top, ent_pl, fr_own, fr_top, fr_pl, pu_int, pu_bl, pu_str, pu_non, pu_tup, pu_lst, pu_nil, pu_cons, pe_lst', no_nil, no_cons, al_nil, al_cons, od_rt, od_nx, ofO_some, d_add, d_sub, d_mul, d_div, d_mod, d_cat, d_catT, c_eqI, c_neI, c_lt, c_le, c_gt, c_ge, List.map_cons, List.map_nil, List.length_cons, List.length_nil, List.getElem?_cons_zero, List.getElem?_cons_succ, List.set_cons_zero, List.set_cons_succ, List.cons_append, List.nil_append, List.append_nil, List.replicate, Nat.reduceAdd, Nat.reduceSub, Bool.true_and, Bool.and_true, Bool.false_and, Bool.and_false, Bool.true_or, Bool.or_true, Bool.false_or, Bool.or_false, Bool.not_true, Bool.not_false, if_true, if_false, Bool.false_eq_true, reduceIte]
end PyV
namespace PyV
open PySem L2
/-! ### drawn works -/
theorem d_min (a b : Int) : dBlt .min [.int a, .int b] = .ok (.int (if b < a then b else a)) := rfl
theorem d_max (a b : Int) : dBlt .max [.int a, .int b] = .ok (.int (if b > a then b else a)) := rfl
theorem word_at {m : Int} (h : 0 ≤ m ∧ m < 4) : ∃ w : Wd, dIx (.lst [.str "sum", .str "stop", .str "pick", .str "not"]) (.int m) = .ok (.str w.str) := by
  have h4 : m = 0 ∨ m = 1 ∨ m = 2 ∨ m = 3 := by omega
  rcases h4 with h | h | h | h <;> rw [h]
  · exact ⟨.sum, rfl⟩
  · exact ⟨.stop, rfl⟩
  · exact ⟨.pick, rfl⟩
  · exact ⟨.not, rfl⟩
theorem word_tab : (mkDct [(.pl true, .str "sum"), (.pl true, .int 2), (.pl true, .str "stop"), (.pl true, .int 2), (.pl true, .str "pick"), (.pl true, .int 3), (.pl true, .str "not"), (.pl true, .int 1)]) = .ok (.top true, .dct [(.inr "sum", .int 2), (.inr "stop", .int 2), (.inr "pick", .int 3), (.inr "not", .int 1)]) := rfl
theorem word_ar (w : Wd) : dIx (.dct [(.inr "sum", .int 2), (.inr "stop", .int 2), (.inr "pick", .int 3), (.inr "not", .int 1)]) (.str w.str) = .ok (.int (w.ar : Nat)) := by cases w <;> rfl
theorem ar_lt (w : Wd) : w.ar < 4 := by cases w <;> decide
theorem tab3 {j : Nat} (h : j < 3) : ∃ v : Int, 0 < v ∧ v < 1073741824 ∧ dIx (.lst [.int 1, .int 7, .int 49]) (.int j) = .ok (.int v) := by
  have h4 : j = 0 ∨ j = 1 ∨ j = 2 := by omega
  rcases h4 with h | h | h <;> subst h
  · exact ⟨1, by decide, by decide, rfl⟩
  · exact ⟨7, by decide, by decide, rfl⟩
  · exact ⟨49, by decide, by decide, rfl⟩
def partF : Fn := ⟨2, 6, (.cons (.set 2 false (.ix (.lst (.cons (.ks "sum") (.cons (.ks "stop") (.cons (.ks "pick") (.cons (.ks "not") .nil))))) (.bin .Mod (.v 0) (.ki 4)))) (.cons (.set 3 true (.lst .nil)) (.cons (.forr [4] (.r1 (.ix (.dct (.cons (.ks "sum") (.cons (.ki 2) (.cons (.ks "stop") (.cons (.ki 2) (.cons (.ks "pick") (.cons (.ki 3) (.cons (.ks "not") (.cons (.ki 1) .nil))))))))) (.v 2))) (.cons (.set 5 false (.bin .FloorDiv (.bin .FloorDiv (.v 0) (.ki 4)) (.ix (.lst (.cons (.ki 1) (.cons (.ki 7) (.cons (.ki 49) .nil)))) (.v 4)))) (.cons (.iff (.cmp .Eq (.bin .Mod (.v 5) (.ki 2)) (.ki 0)) (.cons (.app 3 (.bin .Sub (.bin .Sub (.v 1) (.ki 1)) (.bin .Mod (.bin .FloorDiv (.v 5) (.ki 2)) (.bl .min (.cons (.v 1) (.cons (.ki 3) .nil)))))) .nil) (.cons (.app 3 (.bin .Mod (.bin .FloorDiv (.v 5) (.ki 2)) (.v 1))) .nil)) .nil))) (.cons (.ret (.bl .tuple (.cons (.bin .Add (.lst (.cons (.v 2) .nil)) (.v 3)) .nil))) .nil))))⟩
theorem run_part (S : Sig) {c : Int} (hc : 0 ≤ c) {l : Nat} (h1 : 1 ≤ l) (h16 : l ≤ 1000) : ∃ p : Pt, p.ok l ∧ runB S partF [.int c, .int l] = .ok p.D := by
  obtain ⟨w, hw⟩ := word_at (m := c % 4) (by omega)
  have har := ar_lt w
  obtain ⟨ρ', e, ls, hl, hb, s4, s5, rfl⟩ := loop_rngP (n := w.ar) (f := fun ρ x => (bindT true x ρ [4]).bind fun ρ' => evSs S (.cons (.set 5 false (.bin .FloorDiv (.bin .FloorDiv (.v 0) (.ki 4)) (.ix (.lst (.cons (.ki 1) (.cons (.ki 7) (.cons (.ki 49) .nil)))) (.v 4)))) (.cons (.iff (.cmp .Eq (.bin .Mod (.v 5) (.ki 2)) (.ki 0)) (.cons (.app 3 (.bin .Sub (.bin .Sub (.v 1) (.ki 1)) (.bin .Mod (.bin .FloorDiv (.v 5) (.ki 2)) (.bl .min (.cons (.v 1) (.cons (.ki 3) .nil)))))) .nil) (.cons (.app 3 (.bin .Mod (.bin .FloorDiv (.v 5) (.ki 2)) (.v 1))) .nil)) .nil)) ρ')
    (fun i ρ => ∃ ls : List Int, ls.length = i ∧ (∀ x ∈ ls, 0 ≤ x ∧ x < l) ∧ ∃ s4 s5, ρ = [some (.old, .int c), some (.old, .int l), some (.new, .str w.str), some (.own, .lst (ls.map D.int)), s4, s5])
    (ρ := [some (.old, .int c), some (.old, .int l), some (.new, .str w.str), some (.own, .lst []), none, none]) ⟨[], rfl, by simp, none, none, rfl⟩ (by
    rintro j ρ hj ⟨ls, hl, hb, s4, s5, rfl⟩
    obtain ⟨v, v0, v1, hv⟩ := tab3 (j := j) (by omega)
    have hlen : ls.length < 1000000 := by omega
    have cat : ∀ z : Int, 0 ≤ z → z < l → ∃ ls' : List Int, ls'.length = j + 1 ∧ (∀ x ∈ ls', 0 ≤ x ∧ x < l) ∧ ls'.map D.int = ls.map D.int ++ [.int z] := fun z z0 z1 =>
      ⟨ls ++ [z], by simp [hl], fun x hx => by
        rcases List.mem_append.mp hx with q | q
        · exact hb x q
        · have : x = z := by simpa using q
          subst this; exact ⟨z0, z1⟩, by simp⟩
    by_cases hq : c / 4 / v % 2 = 0
    · have hm : (0 : Int) < (if (3 : Int) < (l : Int) then 3 else (l : Int)) ∧ (if (3 : Int) < (l : Int) then 3 else (l : Int)) ≤ l := by split <;> omega
      generalize hmm : (if (3 : Int) < (l : Int) then 3 else (l : Int)) = m at hm
      have m1 := Int.emod_nonneg (c / 4 / v / 2) (by omega : m ≠ 0)
      have m2 := Int.emod_lt_of_pos (c / 4 / v / 2) hm.1
      obtain ⟨ls', g1, g2, g3⟩ := cat (l - 1 - c / 4 / v / 2 % m) (by omega) (by omega)
      refine ⟨_, ?_, ls', g1, g2, some (.new, .int j), some (.new, .int (c / 4 / v)), rfl⟩
      rw [bindT_1, bind_ok, setE_int, g3]
      (apply seq_step; focus (simp (disch := (first | trivial | omega | (simp only [true_and, and_true, lim, List.length_cons, List.length_nil, List.length_map, List.length_append] <;> first | trivial | omega) | assumption)) only [asOwn, asOwnL, runB, evSs, evS, evE, evEs, evB, evIt, isV, isNo, bind_ok, bind_ex, guard_t, env0, mk_lst, mk_dct, mk_tup, mk_frz, mk_int, mk_bl, mk_str, mk_non, el_lst, el_dct, el_tup, el_frz, el_int, el_bl, el_str, el_non, new_own, new_top, new_pl, io_own, io_top, io_pl, asB_bl, asI_int, ent_top, ent_pl, fr_own, fr_top, fr_pl, pu_int, pu_bl, pu_str, pu_non, pu_tup, pu_lst, pu_nil, pu_cons, pe_lst', no_nil, no_cons, al_nil, al_cons, od_rt, od_nx, ofO_some, d_add, d_sub, d_mul, d_div, d_mod, d_cat, d_catT, c_eqI, c_neI, c_lt, c_le, c_gt, c_ge, List.map_cons, List.map_nil, List.length_cons, List.length_nil, List.getElem?_cons_zero, List.getElem?_cons_succ, List.set_cons_zero, List.set_cons_succ, List.cons_append, List.nil_append, List.append_nil, List.replicate, Nat.reduceAdd, Nat.reduceSub, Bool.true_and, Bool.and_true, Bool.false_and, Bool.and_false, Bool.true_or, Bool.or_true, Bool.false_or, Bool.or_false, Bool.not_true, Bool.not_false, if_true, if_false, Bool.false_eq_true, reduceIte, hv]; exact rfl))
      refine seq_last (if_t (k := .pl true) ?_ (seq_last ?_))
      · simp (disch := (first | trivial | omega | (simp only [true_and, and_true, lim, List.length_cons, List.length_nil, List.length_map, List.length_append] <;> first | trivial | omega) | assumption)) only [asOwn, asOwnL, runB, evSs, evS, evE, evEs, evB, evIt, isV, isNo, bind_ok, bind_ex, guard_t, env0, mk_lst, mk_dct, mk_tup, mk_frz, mk_int, mk_bl, mk_str, mk_non, el_lst, el_dct, el_tup, el_frz, el_int, el_bl, el_str, el_non, new_own, new_top, new_pl, io_own, io_top, io_pl, asB_bl, asI_int, ent_top, ent_pl, fr_own, fr_top, fr_pl, pu_int, pu_bl, pu_str, pu_non, pu_tup, pu_lst, pu_nil, pu_cons, pe_lst', no_nil, no_cons, al_nil, al_cons, od_rt, od_nx, ofO_some, d_add, d_sub, d_mul, d_div, d_mod, d_cat, d_catT, c_eqI, c_neI, c_lt, c_le, c_gt, c_ge, List.map_cons, List.map_nil, List.length_cons, List.length_nil, List.getElem?_cons_zero, List.getElem?_cons_succ, List.set_cons_zero, List.set_cons_succ, List.cons_append, List.nil_append, List.append_nil, List.replicate, Nat.reduceAdd, Nat.reduceSub, Bool.true_and, Bool.and_true, Bool.false_and, Bool.and_false, Bool.true_or, Bool.or_true, Bool.false_or, Bool.or_false, Bool.not_true, Bool.not_false, if_true, if_false, Bool.false_eq_true, reduceIte, hq, decide_true, eq_self]
      · have hm0 := hm.1
        simp (disch := (first | trivial | omega | (simp only [true_and, and_true, lim, List.length_cons, List.length_nil, List.length_map, List.length_append] <;> first | trivial | omega) | assumption)) only [asOwn, asOwnL, runB, evSs, evS, evE, evEs, evB, evIt, isV, isNo, bind_ok, bind_ex, guard_t, env0, mk_lst, mk_dct, mk_tup, mk_frz, mk_int, mk_bl, mk_str, mk_non, el_lst, el_dct, el_tup, el_frz, el_int, el_bl, el_str, el_non, new_own, new_top, new_pl, io_own, io_top, io_pl, asB_bl, asI_int, ent_top, ent_pl, fr_own, fr_top, fr_pl, pu_int, pu_bl, pu_str, pu_non, pu_tup, pu_lst, pu_nil, pu_cons, pe_lst', no_nil, no_cons, al_nil, al_cons, od_rt, od_nx, ofO_some, d_add, d_sub, d_mul, d_div, d_mod, d_cat, d_catT, c_eqI, c_neI, c_lt, c_le, c_gt, c_ge, List.map_cons, List.map_nil, List.length_cons, List.length_nil, List.getElem?_cons_zero, List.getElem?_cons_succ, List.set_cons_zero, List.set_cons_succ, List.cons_append, List.nil_append, List.append_nil, List.replicate, Nat.reduceAdd, Nat.reduceSub, Bool.true_and, Bool.and_true, Bool.false_and, Bool.and_false, Bool.true_or, Bool.or_true, Bool.false_or, Bool.or_false, Bool.not_true, Bool.not_false, if_true, if_false, Bool.false_eq_true, reduceIte, d_min, hmm]
    · have m1 := Int.emod_nonneg (c / 4 / v / 2) (by omega : (l : Int) ≠ 0)
      have m2 := Int.emod_lt_of_pos (c / 4 / v / 2) (by omega : (0 : Int) < l)
      obtain ⟨ls', g1, g2, g3⟩ := cat (c / 4 / v / 2 % l) m1 m2
      refine ⟨_, ?_, ls', g1, g2, some (.new, .int j), some (.new, .int (c / 4 / v)), rfl⟩
      rw [bindT_1, bind_ok, setE_int, g3]
      (apply seq_step; focus (simp (disch := (first | trivial | omega | (simp only [true_and, and_true, lim, List.length_cons, List.length_nil, List.length_map, List.length_append] <;> first | trivial | omega) | assumption)) only [asOwn, asOwnL, runB, evSs, evS, evE, evEs, evB, evIt, isV, isNo, bind_ok, bind_ex, guard_t, env0, mk_lst, mk_dct, mk_tup, mk_frz, mk_int, mk_bl, mk_str, mk_non, el_lst, el_dct, el_tup, el_frz, el_int, el_bl, el_str, el_non, new_own, new_top, new_pl, io_own, io_top, io_pl, asB_bl, asI_int, ent_top, ent_pl, fr_own, fr_top, fr_pl, pu_int, pu_bl, pu_str, pu_non, pu_tup, pu_lst, pu_nil, pu_cons, pe_lst', no_nil, no_cons, al_nil, al_cons, od_rt, od_nx, ofO_some, d_add, d_sub, d_mul, d_div, d_mod, d_cat, d_catT, c_eqI, c_neI, c_lt, c_le, c_gt, c_ge, List.map_cons, List.map_nil, List.length_cons, List.length_nil, List.getElem?_cons_zero, List.getElem?_cons_succ, List.set_cons_zero, List.set_cons_succ, List.cons_append, List.nil_append, List.append_nil, List.replicate, Nat.reduceAdd, Nat.reduceSub, Bool.true_and, Bool.and_true, Bool.false_and, Bool.and_false, Bool.true_or, Bool.or_true, Bool.false_or, Bool.or_false, Bool.not_true, Bool.not_false, if_true, if_false, Bool.false_eq_true, reduceIte, hv]; exact rfl))
      refine seq_last (if_f (k := .pl true) ?_ (seq_last ?_))
      · simp (disch := (first | trivial | omega | (simp only [true_and, and_true, lim, List.length_cons, List.length_nil, List.length_map, List.length_append] <;> first | trivial | omega) | assumption)) only [asOwn, asOwnL, runB, evSs, evS, evE, evEs, evB, evIt, isV, isNo, bind_ok, bind_ex, guard_t, env0, mk_lst, mk_dct, mk_tup, mk_frz, mk_int, mk_bl, mk_str, mk_non, el_lst, el_dct, el_tup, el_frz, el_int, el_bl, el_str, el_non, new_own, new_top, new_pl, io_own, io_top, io_pl, asB_bl, asI_int, ent_top, ent_pl, fr_own, fr_top, fr_pl, pu_int, pu_bl, pu_str, pu_non, pu_tup, pu_lst, pu_nil, pu_cons, pe_lst', no_nil, no_cons, al_nil, al_cons, od_rt, od_nx, ofO_some, d_add, d_sub, d_mul, d_div, d_mod, d_cat, d_catT, c_eqI, c_neI, c_lt, c_le, c_gt, c_ge, List.map_cons, List.map_nil, List.length_cons, List.length_nil, List.getElem?_cons_zero, List.getElem?_cons_succ, List.set_cons_zero, List.set_cons_succ, List.cons_append, List.nil_append, List.append_nil, List.replicate, Nat.reduceAdd, Nat.reduceSub, Bool.true_and, Bool.and_true, Bool.false_and, Bool.and_false, Bool.true_or, Bool.or_true, Bool.false_or, Bool.or_false, Bool.not_true, Bool.not_false, if_true, if_false, Bool.false_eq_true, reduceIte, hq, decide_false]
      · simp (disch := (first | trivial | omega | (simp only [true_and, and_true, lim, List.length_cons, List.length_nil, List.length_map, List.length_append] <;> first | trivial | omega) | assumption)) only [asOwn, asOwnL, runB, evSs, evS, evE, evEs, evB, evIt, isV, isNo, bind_ok, bind_ex, guard_t, env0, mk_lst, mk_dct, mk_tup, mk_frz, mk_int, mk_bl, mk_str, mk_non, el_lst, el_dct, el_tup, el_frz, el_int, el_bl, el_str, el_non, new_own, new_top, new_pl, io_own, io_top, io_pl, asB_bl, asI_int, ent_top, ent_pl, fr_own, fr_top, fr_pl, pu_int, pu_bl, pu_str, pu_non, pu_tup, pu_lst, pu_nil, pu_cons, pe_lst', no_nil, no_cons, al_nil, al_cons, od_rt, od_nx, ofO_some, d_add, d_sub, d_mul, d_div, d_mod, d_cat, d_catT, c_eqI, c_neI, c_lt, c_le, c_gt, c_ge, List.map_cons, List.map_nil, List.length_cons, List.length_nil, List.getElem?_cons_zero, List.getElem?_cons_succ, List.set_cons_zero, List.set_cons_succ, List.cons_append, List.nil_append, List.append_nil, List.replicate, Nat.reduceAdd, Nat.reduceSub, Bool.true_and, Bool.and_true, Bool.false_and, Bool.and_false, Bool.true_or, Bool.or_true, Bool.false_or, Bool.or_false, Bool.not_true, Bool.not_false, if_true, if_false, Bool.false_eq_true, reduceIte])
  refine ⟨⟨w, ls⟩, ⟨hl, hb⟩, ?_⟩
  unfold partF
  refine run_rt ?_
  (apply seq_step; focus (simp (disch := (first | trivial | omega | (simp only [true_and, and_true, lim, List.length_cons, List.length_nil, List.length_map, List.length_append] <;> first | trivial | omega) | assumption)) only [asOwn, asOwnL, runB, evSs, evS, evE, evEs, evB, evIt, isV, isNo, bind_ok, bind_ex, guard_t, env0, mk_lst, mk_dct, mk_tup, mk_frz, mk_int, mk_bl, mk_str, mk_non, el_lst, el_dct, el_tup, el_frz, el_int, el_bl, el_str, el_non, new_own, new_top, new_pl, io_own, io_top, io_pl, asB_bl, asI_int, ent_top, ent_pl, fr_own, fr_top, fr_pl, pu_int, pu_bl, pu_str, pu_non, pu_tup, pu_lst, pu_nil, pu_cons, pe_lst', no_nil, no_cons, al_nil, al_cons, od_rt, od_nx, ofO_some, d_add, d_sub, d_mul, d_div, d_mod, d_cat, d_catT, c_eqI, c_neI, c_lt, c_le, c_gt, c_ge, List.map_cons, List.map_nil, List.length_cons, List.length_nil, List.getElem?_cons_zero, List.getElem?_cons_succ, List.set_cons_zero, List.set_cons_succ, List.cons_append, List.nil_append, List.append_nil, List.replicate, Nat.reduceAdd, Nat.reduceSub, Bool.true_and, Bool.and_true, Bool.false_and, Bool.and_false, Bool.true_or, Bool.or_true, Bool.false_or, Bool.or_false, Bool.not_true, Bool.not_false, if_true, if_false, Bool.false_eq_true, reduceIte, hw]; exact rfl))
  (apply seq_step; focus (simp (disch := (first | trivial | omega | (simp only [true_and, and_true, lim, List.length_cons, List.length_nil, List.length_map, List.length_append] <;> first | trivial | omega) | assumption)) only [asOwn, asOwnL, runB, evSs, evS, evE, evEs, evB, evIt, isV, isNo, bind_ok, bind_ex, guard_t, env0, mk_lst, mk_dct, mk_tup, mk_frz, mk_int, mk_bl, mk_str, mk_non, el_lst, el_dct, el_tup, el_frz, el_int, el_bl, el_str, el_non, new_own, new_top, new_pl, io_own, io_top, io_pl, asB_bl, asI_int, ent_top, ent_pl, fr_own, fr_top, fr_pl, pu_int, pu_bl, pu_str, pu_non, pu_tup, pu_lst, pu_nil, pu_cons, pe_lst', no_nil, no_cons, al_nil, al_cons, od_rt, od_nx, ofO_some, d_add, d_sub, d_mul, d_div, d_mod, d_cat, d_catT, c_eqI, c_neI, c_lt, c_le, c_gt, c_ge, List.map_cons, List.map_nil, List.length_cons, List.length_nil, List.getElem?_cons_zero, List.getElem?_cons_succ, List.set_cons_zero, List.set_cons_succ, List.cons_append, List.nil_append, List.append_nil, List.replicate, Nat.reduceAdd, Nat.reduceSub, Bool.true_and, Bool.and_true, Bool.false_and, Bool.and_false, Bool.true_or, Bool.or_true, Bool.false_or, Bool.or_false, Bool.not_true, Bool.not_false, if_true, if_false, Bool.false_eq_true, reduceIte]; exact rfl))
  apply seq_step
  · rw [for_r1 (n := w.ar) (kd := .pl true) (by simp (disch := (first | trivial | omega | (simp only [true_and, and_true, lim, List.length_cons, List.length_nil, List.length_map, List.length_append] <;> first | trivial | omega) | assumption)) only [asOwn, asOwnL, runB, evSs, evS, evE, evEs, evB, evIt, isV, isNo, bind_ok, bind_ex, guard_t, env0, mk_lst, mk_dct, mk_tup, mk_frz, mk_int, mk_bl, mk_str, mk_non, el_lst, el_dct, el_tup, el_frz, el_int, el_bl, el_str, el_non, new_own, new_top, new_pl, io_own, io_top, io_pl, asB_bl, asI_int, ent_top, ent_pl, fr_own, fr_top, fr_pl, pu_int, pu_bl, pu_str, pu_non, pu_tup, pu_lst, pu_nil, pu_cons, pe_lst', no_nil, no_cons, al_nil, al_cons, od_rt, od_nx, ofO_some, d_add, d_sub, d_mul, d_div, d_mod, d_cat, d_catT, c_eqI, c_neI, c_lt, c_le, c_gt, c_ge, List.map_cons, List.map_nil, List.length_cons, List.length_nil, List.getElem?_cons_zero, List.getElem?_cons_succ, List.set_cons_zero, List.set_cons_succ, List.cons_append, List.nil_append, List.append_nil, List.replicate, Nat.reduceAdd, Nat.reduceSub, Bool.true_and, Bool.and_true, Bool.false_and, Bool.and_false, Bool.true_or, Bool.or_true, Bool.false_or, Bool.or_false, Bool.not_true, Bool.not_false, if_true, if_false, Bool.false_eq_true, reduceIte, word_tab, word_ar]) (by omega)]
    exact e
  apply seq_rt
  have hlen : ls.length < 1000000 := by omega
  have hmk := mk_pt
  simp (disch := (first | trivial | omega | (simp only [true_and, and_true, lim, List.length_cons, List.length_nil, List.length_map, List.length_append] <;> first | trivial | omega) | assumption)) only [asOwn, asOwnL, runB, evSs, evS, evE, evEs, evB, evIt, isV, isNo, bind_ok, bind_ex, guard_t, env0, mk_lst, mk_dct, mk_tup, mk_frz, mk_int, mk_bl, mk_str, mk_non, el_lst, el_dct, el_tup, el_frz, el_int, el_bl, el_str, el_non, new_own, new_top, new_pl, io_own, io_top, io_pl, asB_bl, asI_int, ent_top, ent_pl, fr_own, fr_top, fr_pl, pu_int, pu_bl, pu_str, pu_non, pu_tup, pu_lst, pu_nil, pu_cons, pe_lst', no_nil, no_cons, al_nil, al_cons, od_rt, od_nx, ofO_some, d_add, d_sub, d_mul, d_div, d_mod, d_cat, d_catT, c_eqI, c_neI, c_lt, c_le, c_gt, c_ge, List.map_cons, List.map_nil, List.length_cons, List.length_nil, List.getElem?_cons_zero, List.getElem?_cons_succ, List.set_cons_zero, List.set_cons_succ, List.cons_append, List.nil_append, List.append_nil, List.replicate, Nat.reduceAdd, Nat.reduceSub, Bool.true_and, Bool.and_true, Bool.false_and, Bool.and_false, Bool.true_or, Bool.or_true, Bool.false_or, Bool.or_false, Bool.not_true, Bool.not_false, if_true, if_false, Bool.false_eq_true, reduceIte, tup_lst]
  rfl
theorem ring_at {m : Int} (h : 0 ≤ m ∧ m < 8) : ∃ r : Int, 2 ≤ r ∧ r ≤ 5 ∧ dIx (.lst [.int 2, .int 2, .int 3, .int 2, .int 3, .int 4, .int 5, .int 2]) (.int m) = .ok (.int r) := by
  have h4 : m = 0 ∨ m = 1 ∨ m = 2 ∨ m = 3 ∨ m = 4 ∨ m = 5 ∨ m = 6 ∨ m = 7 := by omega
  rcases h4 with h | h | h | h | h | h | h | h <;> subst h
  · exact ⟨2, by decide, by decide, rfl⟩
  · exact ⟨2, by decide, by decide, rfl⟩
  · exact ⟨3, by decide, by decide, rfl⟩
  · exact ⟨2, by decide, by decide, rfl⟩
  · exact ⟨3, by decide, by decide, rfl⟩
  · exact ⟨4, by decide, by decide, rfl⟩
  · exact ⟨5, by decide, by decide, rfl⟩
  · exact ⟨2, by decide, by decide, rfl⟩
def workF (mx pt : Nat) : Fn := ⟨2, 8, (.cons (.set 2 false (.call mx (.cons (.v 0) (.cons (.ki 0) .nil)))) (.cons (.set 3 false (.ix (.lst (.cons (.ki 2) (.cons (.ki 2) (.cons (.ki 3) (.cons (.ki 2) (.cons (.ki 3) (.cons (.ki 4) (.cons (.ki 5) (.cons (.ki 2) .nil))))))))) (.bin .Mod (.v 2) (.ki 8)))) (.cons (.set 4 false (.bin .Add (.ki 1) (.bin .Mod (.bin .FloorDiv (.v 2) (.ki 8)) (.ki 3)))) (.cons (.iff (.cmp .Eq (.bin .Mod (.bin .FloorDiv (.v 2) (.ki 24)) (.ki 8)) (.ki 1)) (.cons (.set 4 false (.bin .Add (.ki 1) (.bin .Mod (.bin .FloorDiv (.v 2) (.ki 192)) (.ki 6)))) .nil) .nil) (.cons (.set 5 false (.bin .Add (.ki 1) (.bin .Mod (.call mx (.cons (.v 0) (.cons (.ki 1) .nil))) (.v 1)))) (.cons (.iff (.bop .And (.cons (.cmp .Gt (.v 3) (.ki 3)) (.cons (.cmp .Lt (.v 1) (.ki 8)) .nil))) (.cons (.set 5 false (.bl .min (.cons (.v 5) (.cons (.ki 4) .nil)))) .nil) .nil) (.cons (.set 6 false (.lc (.call pt (.cons (.call mx (.cons (.v 0) (.cons (.bin .Add (.ki 2) (.v 7)) .nil))) (.cons (.bin .Add (.v 4) (.v 7)) .nil))) [7] (.r1 (.v 5)) .no)) (.cons (.ret (.tup (.cons (.v 3) (.cons (.v 4) (.cons (.v 6) .nil))))) .nil))))))))⟩
theorem run_work (S : Sig) (mx pt : Nat) (ns : List Int) {most : Nat} (h1 : 1 ≤ most) (h10 : most ≤ 10) (hm : ∀ {k : Int}, 0 ≤ k → S.call mx [.frz (ns.map D.int), .int k] = .ok (.int (mixed ns k)))
    (hp : ∀ (c : Int) (l : Nat), 0 ≤ c → 1 ≤ l → l ≤ 1000 → ∃ p : Pt, p.ok l ∧ S.call pt [.int c, .int l] = .ok p.D) :
    ∃ w : Wk, w.ok ∧ w.parts.length ≤ most ∧ (3 < w.ring → most < 8 → w.parts.length ≤ 4) ∧ runB S (workF mx pt) [.frz (ns.map D.int), .int most] = .ok w.D := by
  have m0 := mixed_nn ns 0
  have m1 := mixed_nn ns 1
  have a0 := hm (k := 0) (by decide)
  have a1 := hm (k := 1) (by decide)
  generalize mixed ns 0 = x0 at m0 a0
  generalize mixed ns 1 = x1 at m1 a1
  obtain ⟨ring, r2, r5, hr⟩ := ring_at (m := x0 % 8) (by omega)
  -- the inputs
  obtain ⟨inp, i1, i6, hinp⟩ : ∃ inp : Nat, 1 ≤ inp ∧ inp ≤ 6 ∧ ∀ (u v w z : Option (Tg × D)), evS S (.iff (.cmp .Eq (.bin .Mod (.bin .FloorDiv (.v 2) (.ki 24)) (.ki 8)) (.ki 1)) (.cons (.set 4 false (.bin .Add (.ki 1) (.bin .Mod (.bin .FloorDiv (.v 2) (.ki 192)) (.ki 6)))) .nil) .nil)
      [some (.old, .frz (ns.map D.int)), some (.old, .int most), some (.new, .int x0), some (.new, .int ring), some (.new, .int (1 + x0 / 8 % 3)), u, v, w] = .ok (.nx [some (.old, .frz (ns.map D.int)), some (.old, .int most), some (.new, .int x0), some (.new, .int ring), some (.new, .int inp), u, v, w]) := by
    by_cases hq : x0 / 24 % 8 = 1
    · refine ⟨(1 + x0 / 192 % 6).toNat, by omega, by omega, fun u v w z => ?_⟩
      rw [show (((1 + x0 / 192 % 6).toNat : Nat) : Int) = 1 + x0 / 192 % 6 by omega]
      refine if_t (k := .pl true) ?_ (seq_last ?_)
      · simp (disch := (first | trivial | omega | (simp only [true_and, and_true, lim, List.length_cons, List.length_nil, List.length_map, List.length_append] <;> first | trivial | omega) | assumption)) only [asOwn, asOwnL, runB, evSs, evS, evE, evEs, evB, evIt, isV, isNo, bind_ok, bind_ex, guard_t, env0, mk_lst, mk_dct, mk_tup, mk_frz, mk_int, mk_bl, mk_str, mk_non, el_lst, el_dct, el_tup, el_frz, el_int, el_bl, el_str, el_non, new_own, new_top, new_pl, io_own, io_top, io_pl, asB_bl, asI_int, ent_top, ent_pl, fr_own, fr_top, fr_pl, pu_int, pu_bl, pu_str, pu_non, pu_tup, pu_lst, pu_nil, pu_cons, pe_lst', no_nil, no_cons, al_nil, al_cons, od_rt, od_nx, ofO_some, d_add, d_sub, d_mul, d_div, d_mod, d_cat, d_catT, c_eqI, c_neI, c_lt, c_le, c_gt, c_ge, List.map_cons, List.map_nil, List.length_cons, List.length_nil, List.getElem?_cons_zero, List.getElem?_cons_succ, List.set_cons_zero, List.set_cons_succ, List.cons_append, List.nil_append, List.append_nil, List.replicate, Nat.reduceAdd, Nat.reduceSub, Bool.true_and, Bool.and_true, Bool.false_and, Bool.and_false, Bool.true_or, Bool.or_true, Bool.false_or, Bool.or_false, Bool.not_true, Bool.not_false, if_true, if_false, Bool.false_eq_true, reduceIte, hq, decide_true, eq_self]
      · simp (disch := (first | trivial | omega | (simp only [true_and, and_true, lim, List.length_cons, List.length_nil, List.length_map, List.length_append] <;> first | trivial | omega) | assumption)) only [asOwn, asOwnL, runB, evSs, evS, evE, evEs, evB, evIt, isV, isNo, bind_ok, bind_ex, guard_t, env0, mk_lst, mk_dct, mk_tup, mk_frz, mk_int, mk_bl, mk_str, mk_non, el_lst, el_dct, el_tup, el_frz, el_int, el_bl, el_str, el_non, new_own, new_top, new_pl, io_own, io_top, io_pl, asB_bl, asI_int, ent_top, ent_pl, fr_own, fr_top, fr_pl, pu_int, pu_bl, pu_str, pu_non, pu_tup, pu_lst, pu_nil, pu_cons, pe_lst', no_nil, no_cons, al_nil, al_cons, od_rt, od_nx, ofO_some, d_add, d_sub, d_mul, d_div, d_mod, d_cat, d_catT, c_eqI, c_neI, c_lt, c_le, c_gt, c_ge, List.map_cons, List.map_nil, List.length_cons, List.length_nil, List.getElem?_cons_zero, List.getElem?_cons_succ, List.set_cons_zero, List.set_cons_succ, List.cons_append, List.nil_append, List.append_nil, List.replicate, Nat.reduceAdd, Nat.reduceSub, Bool.true_and, Bool.and_true, Bool.false_and, Bool.and_false, Bool.true_or, Bool.or_true, Bool.false_or, Bool.or_false, Bool.not_true, Bool.not_false, if_true, if_false, Bool.false_eq_true, reduceIte]
    · refine ⟨(1 + x0 / 8 % 3).toNat, by omega, by omega, fun u v w z => ?_⟩
      rw [show (((1 + x0 / 8 % 3).toNat : Nat) : Int) = 1 + x0 / 8 % 3 by omega]
      refine if_f (k := .pl true) ?_ seq_nil
      simp (disch := (first | trivial | omega | (simp only [true_and, and_true, lim, List.length_cons, List.length_nil, List.length_map, List.length_append] <;> first | trivial | omega) | assumption)) only [asOwn, asOwnL, runB, evSs, evS, evE, evEs, evB, evIt, isV, isNo, bind_ok, bind_ex, guard_t, env0, mk_lst, mk_dct, mk_tup, mk_frz, mk_int, mk_bl, mk_str, mk_non, el_lst, el_dct, el_tup, el_frz, el_int, el_bl, el_str, el_non, new_own, new_top, new_pl, io_own, io_top, io_pl, asB_bl, asI_int, ent_top, ent_pl, fr_own, fr_top, fr_pl, pu_int, pu_bl, pu_str, pu_non, pu_tup, pu_lst, pu_nil, pu_cons, pe_lst', no_nil, no_cons, al_nil, al_cons, od_rt, od_nx, ofO_some, d_add, d_sub, d_mul, d_div, d_mod, d_cat, d_catT, c_eqI, c_neI, c_lt, c_le, c_gt, c_ge, List.map_cons, List.map_nil, List.length_cons, List.length_nil, List.getElem?_cons_zero, List.getElem?_cons_succ, List.set_cons_zero, List.set_cons_succ, List.cons_append, List.nil_append, List.append_nil, List.replicate, Nat.reduceAdd, Nat.reduceSub, Bool.true_and, Bool.and_true, Bool.false_and, Bool.and_false, Bool.true_or, Bool.or_true, Bool.false_or, Bool.or_false, Bool.not_true, Bool.not_false, if_true, if_false, Bool.false_eq_true, reduceIte, hq, decide_false]
  -- how many parts
  have hmost : (0 : Int) < most := by omega
  have b1 := Int.emod_nonneg x1 (by omega : (most : Int) ≠ 0)
  have b2 := Int.emod_lt_of_pos x1 hmost
  obtain ⟨many, p1, pm, p4, hmany⟩ : ∃ many : Nat, 1 ≤ many ∧ many ≤ most ∧ (3 < ring → most < 8 → many ≤ 4) ∧ ∀ (v w : Option (Tg × D)), evS S (.iff (.bop .And (.cons (.cmp .Gt (.v 3) (.ki 3)) (.cons (.cmp .Lt (.v 1) (.ki 8)) .nil))) (.cons (.set 5 false (.bl .min (.cons (.v 5) (.cons (.ki 4) .nil)))) .nil) .nil)
      [some (.old, .frz (ns.map D.int)), some (.old, .int most), some (.new, .int x0), some (.new, .int ring), some (.new, .int inp), some (.new, .int (1 + x1 % most)), v, w] = .ok (.nx [some (.old, .frz (ns.map D.int)), some (.old, .int most), some (.new, .int x0), some (.new, .int ring), some (.new, .int inp), some (.new, .int many), v, w]) := by
    by_cases hq : 3 < ring ∧ (most : Int) < 8
    · refine ⟨(if (4 : Int) < 1 + x1 % most then 4 else 1 + x1 % most).toNat, by split <;> omega, by split <;> omega, fun _ _ => by split <;> omega, fun v w => ?_⟩
      rw [show (((if (4 : Int) < 1 + x1 % most then 4 else 1 + x1 % most).toNat : Nat) : Int) = if (4 : Int) < 1 + x1 % most then 4 else 1 + x1 % most by split <;> omega]
      refine if_t (k := .pl true) ?_ (seq_last ?_)
      · have q1 := decide_eq_true hq.1
        have q2 := decide_eq_true hq.2
        simp (disch := (first | trivial | omega | (simp only [true_and, and_true, lim, List.length_cons, List.length_nil, List.length_map, List.length_append] <;> first | trivial | omega) | assumption)) only [asOwn, asOwnL, runB, evSs, evS, evE, evEs, evB, evIt, isV, isNo, bind_ok, bind_ex, guard_t, env0, mk_lst, mk_dct, mk_tup, mk_frz, mk_int, mk_bl, mk_str, mk_non, el_lst, el_dct, el_tup, el_frz, el_int, el_bl, el_str, el_non, new_own, new_top, new_pl, io_own, io_top, io_pl, asB_bl, asI_int, ent_top, ent_pl, fr_own, fr_top, fr_pl, pu_int, pu_bl, pu_str, pu_non, pu_tup, pu_lst, pu_nil, pu_cons, pe_lst', no_nil, no_cons, al_nil, al_cons, od_rt, od_nx, ofO_some, d_add, d_sub, d_mul, d_div, d_mod, d_cat, d_catT, c_eqI, c_neI, c_lt, c_le, c_gt, c_ge, List.map_cons, List.map_nil, List.length_cons, List.length_nil, List.getElem?_cons_zero, List.getElem?_cons_succ, List.set_cons_zero, List.set_cons_succ, List.cons_append, List.nil_append, List.append_nil, List.replicate, Nat.reduceAdd, Nat.reduceSub, Bool.true_and, Bool.and_true, Bool.false_and, Bool.and_false, Bool.true_or, Bool.or_true, Bool.false_or, Bool.or_false, Bool.not_true, Bool.not_false, if_true, if_false, Bool.false_eq_true, reduceIte, q1, q2]
      · simp (disch := (first | trivial | omega | (simp only [true_and, and_true, lim, List.length_cons, List.length_nil, List.length_map, List.length_append] <;> first | trivial | omega) | assumption)) only [asOwn, asOwnL, runB, evSs, evS, evE, evEs, evB, evIt, isV, isNo, bind_ok, bind_ex, guard_t, env0, mk_lst, mk_dct, mk_tup, mk_frz, mk_int, mk_bl, mk_str, mk_non, el_lst, el_dct, el_tup, el_frz, el_int, el_bl, el_str, el_non, new_own, new_top, new_pl, io_own, io_top, io_pl, asB_bl, asI_int, ent_top, ent_pl, fr_own, fr_top, fr_pl, pu_int, pu_bl, pu_str, pu_non, pu_tup, pu_lst, pu_nil, pu_cons, pe_lst', no_nil, no_cons, al_nil, al_cons, od_rt, od_nx, ofO_some, d_add, d_sub, d_mul, d_div, d_mod, d_cat, d_catT, c_eqI, c_neI, c_lt, c_le, c_gt, c_ge, List.map_cons, List.map_nil, List.length_cons, List.length_nil, List.getElem?_cons_zero, List.getElem?_cons_succ, List.set_cons_zero, List.set_cons_succ, List.cons_append, List.nil_append, List.append_nil, List.replicate, Nat.reduceAdd, Nat.reduceSub, Bool.true_and, Bool.and_true, Bool.false_and, Bool.and_false, Bool.true_or, Bool.or_true, Bool.false_or, Bool.or_false, Bool.not_true, Bool.not_false, if_true, if_false, Bool.false_eq_true, reduceIte, d_min]
    · refine ⟨(1 + x1 % most).toNat, by omega, by omega, fun z1 z2 => absurd ⟨z1, by omega⟩ hq, fun v w => ?_⟩
      rw [show (((1 + x1 % most).toNat : Nat) : Int) = 1 + x1 % most by omega]
      refine if_f (k := .pl true) ?_ seq_nil
      by_cases h3 : 3 < ring
      · have q1 := decide_eq_true h3
        have q2 : decide ((most : Int) < 8) = false := decide_eq_false fun z => hq ⟨h3, z⟩
        simp (disch := (first | trivial | omega | (simp only [true_and, and_true, lim, List.length_cons, List.length_nil, List.length_map, List.length_append] <;> first | trivial | omega) | assumption)) only [asOwn, asOwnL, runB, evSs, evS, evE, evEs, evB, evIt, isV, isNo, bind_ok, bind_ex, guard_t, env0, mk_lst, mk_dct, mk_tup, mk_frz, mk_int, mk_bl, mk_str, mk_non, el_lst, el_dct, el_tup, el_frz, el_int, el_bl, el_str, el_non, new_own, new_top, new_pl, io_own, io_top, io_pl, asB_bl, asI_int, ent_top, ent_pl, fr_own, fr_top, fr_pl, pu_int, pu_bl, pu_str, pu_non, pu_tup, pu_lst, pu_nil, pu_cons, pe_lst', no_nil, no_cons, al_nil, al_cons, od_rt, od_nx, ofO_some, d_add, d_sub, d_mul, d_div, d_mod, d_cat, d_catT, c_eqI, c_neI, c_lt, c_le, c_gt, c_ge, List.map_cons, List.map_nil, List.length_cons, List.length_nil, List.getElem?_cons_zero, List.getElem?_cons_succ, List.set_cons_zero, List.set_cons_succ, List.cons_append, List.nil_append, List.append_nil, List.replicate, Nat.reduceAdd, Nat.reduceSub, Bool.true_and, Bool.and_true, Bool.false_and, Bool.and_false, Bool.true_or, Bool.or_true, Bool.false_or, Bool.or_false, Bool.not_true, Bool.not_false, if_true, if_false, Bool.false_eq_true, reduceIte, q1, q2]
      · have q1 := decide_eq_false h3
        simp (disch := (first | trivial | omega | (simp only [true_and, and_true, lim, List.length_cons, List.length_nil, List.length_map, List.length_append] <;> first | trivial | omega) | assumption)) only [asOwn, asOwnL, runB, evSs, evS, evE, evEs, evB, evIt, isV, isNo, bind_ok, bind_ex, guard_t, env0, mk_lst, mk_dct, mk_tup, mk_frz, mk_int, mk_bl, mk_str, mk_non, el_lst, el_dct, el_tup, el_frz, el_int, el_bl, el_str, el_non, new_own, new_top, new_pl, io_own, io_top, io_pl, asB_bl, asI_int, ent_top, ent_pl, fr_own, fr_top, fr_pl, pu_int, pu_bl, pu_str, pu_non, pu_tup, pu_lst, pu_nil, pu_cons, pe_lst', no_nil, no_cons, al_nil, al_cons, od_rt, od_nx, ofO_some, d_add, d_sub, d_mul, d_div, d_mod, d_cat, d_catT, c_eqI, c_neI, c_lt, c_le, c_gt, c_ge, List.map_cons, List.map_nil, List.length_cons, List.length_nil, List.getElem?_cons_zero, List.getElem?_cons_succ, List.set_cons_zero, List.set_cons_succ, List.cons_append, List.nil_append, List.append_nil, List.replicate, Nat.reduceAdd, Nat.reduceSub, Bool.true_and, Bool.and_true, Bool.false_and, Bool.and_false, Bool.true_or, Bool.or_true, Bool.false_or, Bool.or_false, Bool.not_true, Bool.not_false, if_true, if_false, Bool.false_eq_true, reduceIte, q1]
  -- the parts
  have hch : ∀ j : Nat, ∃ p : Pt, p.ok (inp + j) ∨ 900 ≤ j := fun j => by
    by_cases hj : 900 ≤ j
    · exact ⟨⟨.sum, []⟩, .inr hj⟩
    · obtain ⟨p, h, _⟩ := hp (mixed ns (2 + j)) (inp + j) (mixed_nn _ _) (by omega) (by omega)
      exact ⟨p, .inl h⟩
  have hch : ∀ j : Nat, ∃ p : Pt, j < 900 → p.ok (inp + j) ∧ S.call pt [.int (mixed ns (2 + j)), .int (inp + j : Nat)] = .ok p.D := fun j => by
    by_cases hj : j < 900
    · obtain ⟨p, h, h'⟩ := hp (mixed ns (2 + j)) (inp + j) (mixed_nn _ _) (by omega) (by omega)
      exact ⟨p, fun _ => ⟨h, h'⟩⟩
    · exact ⟨⟨.sum, []⟩, fun z => absurd z hj⟩
  obtain ⟨pf, hpf⟩ := Classical.axiomOfChoice hch
  refine ⟨⟨ring, inp, (List.range many).map pf⟩, ⟨r2, r5, i1, i6, by simp; omega, by simp; omega, fun k p hk => ?_⟩, by simp; omega, fun z1 z2 => by simp; exact p4 z1 z2, ?_⟩
  · have hk : ((List.range many).map pf)[k]? = some p := hk
    rw [List.getElem?_map] at hk
    cases e : (List.range many)[k]? with
    | none => rw [e] at hk; cases hk
    | some j =>
      rw [e] at hk
      cases hk
      obtain ⟨hl, e2⟩ := List.getElem?_eq_some_iff.mp e
      rw [List.getElem_range] at e2
      subst e2
      rw [List.length_range] at hl
      exact (hpf k (by omega)).1
  · unfold workF
    refine run_rt ?_
    (apply seq_step; focus (simp (disch := (first | trivial | omega | (simp only [true_and, and_true, lim, List.length_cons, List.length_nil, List.length_map, List.length_append] <;> first | trivial | omega) | assumption)) only [asOwn, asOwnL, runB, evSs, evS, evE, evEs, evB, evIt, isV, isNo, bind_ok, bind_ex, guard_t, env0, mk_lst, mk_dct, mk_tup, mk_frz, mk_int, mk_bl, mk_str, mk_non, el_lst, el_dct, el_tup, el_frz, el_int, el_bl, el_str, el_non, new_own, new_top, new_pl, io_own, io_top, io_pl, asB_bl, asI_int, ent_top, ent_pl, fr_own, fr_top, fr_pl, pu_int, pu_bl, pu_str, pu_non, pu_tup, pu_lst, pu_nil, pu_cons, pe_lst', no_nil, no_cons, al_nil, al_cons, od_rt, od_nx, ofO_some, d_add, d_sub, d_mul, d_div, d_mod, d_cat, d_catT, c_eqI, c_neI, c_lt, c_le, c_gt, c_ge, List.map_cons, List.map_nil, List.length_cons, List.length_nil, List.getElem?_cons_zero, List.getElem?_cons_succ, List.set_cons_zero, List.set_cons_succ, List.cons_append, List.nil_append, List.append_nil, List.replicate, Nat.reduceAdd, Nat.reduceSub, Bool.true_and, Bool.and_true, Bool.false_and, Bool.and_false, Bool.true_or, Bool.or_true, Bool.false_or, Bool.or_false, Bool.not_true, Bool.not_false, if_true, if_false, Bool.false_eq_true, reduceIte, a0]; exact rfl))
    (apply seq_step; focus (simp (disch := (first | trivial | omega | (simp only [true_and, and_true, lim, List.length_cons, List.length_nil, List.length_map, List.length_append] <;> first | trivial | omega) | assumption)) only [asOwn, asOwnL, runB, evSs, evS, evE, evEs, evB, evIt, isV, isNo, bind_ok, bind_ex, guard_t, env0, mk_lst, mk_dct, mk_tup, mk_frz, mk_int, mk_bl, mk_str, mk_non, el_lst, el_dct, el_tup, el_frz, el_int, el_bl, el_str, el_non, new_own, new_top, new_pl, io_own, io_top, io_pl, asB_bl, asI_int, ent_top, ent_pl, fr_own, fr_top, fr_pl, pu_int, pu_bl, pu_str, pu_non, pu_tup, pu_lst, pu_nil, pu_cons, pe_lst', no_nil, no_cons, al_nil, al_cons, od_rt, od_nx, ofO_some, d_add, d_sub, d_mul, d_div, d_mod, d_cat, d_catT, c_eqI, c_neI, c_lt, c_le, c_gt, c_ge, List.map_cons, List.map_nil, List.length_cons, List.length_nil, List.getElem?_cons_zero, List.getElem?_cons_succ, List.set_cons_zero, List.set_cons_succ, List.cons_append, List.nil_append, List.append_nil, List.replicate, Nat.reduceAdd, Nat.reduceSub, Bool.true_and, Bool.and_true, Bool.false_and, Bool.and_false, Bool.true_or, Bool.or_true, Bool.false_or, Bool.or_false, Bool.not_true, Bool.not_false, if_true, if_false, Bool.false_eq_true, reduceIte, hr]; exact rfl))
    (apply seq_step; focus (simp (disch := (first | trivial | omega | (simp only [true_and, and_true, lim, List.length_cons, List.length_nil, List.length_map, List.length_append] <;> first | trivial | omega) | assumption)) only [asOwn, asOwnL, runB, evSs, evS, evE, evEs, evB, evIt, isV, isNo, bind_ok, bind_ex, guard_t, env0, mk_lst, mk_dct, mk_tup, mk_frz, mk_int, mk_bl, mk_str, mk_non, el_lst, el_dct, el_tup, el_frz, el_int, el_bl, el_str, el_non, new_own, new_top, new_pl, io_own, io_top, io_pl, asB_bl, asI_int, ent_top, ent_pl, fr_own, fr_top, fr_pl, pu_int, pu_bl, pu_str, pu_non, pu_tup, pu_lst, pu_nil, pu_cons, pe_lst', no_nil, no_cons, al_nil, al_cons, od_rt, od_nx, ofO_some, d_add, d_sub, d_mul, d_div, d_mod, d_cat, d_catT, c_eqI, c_neI, c_lt, c_le, c_gt, c_ge, List.map_cons, List.map_nil, List.length_cons, List.length_nil, List.getElem?_cons_zero, List.getElem?_cons_succ, List.set_cons_zero, List.set_cons_succ, List.cons_append, List.nil_append, List.append_nil, List.replicate, Nat.reduceAdd, Nat.reduceSub, Bool.true_and, Bool.and_true, Bool.false_and, Bool.and_false, Bool.true_or, Bool.or_true, Bool.false_or, Bool.or_false, Bool.not_true, Bool.not_false, if_true, if_false, Bool.false_eq_true, reduceIte]; exact rfl))
    apply seq_step
    · exact hinp _ _ _ none
    (apply seq_step; focus (simp (disch := (first | trivial | omega | (simp only [true_and, and_true, lim, List.length_cons, List.length_nil, List.length_map, List.length_append] <;> first | trivial | omega) | assumption)) only [asOwn, asOwnL, runB, evSs, evS, evE, evEs, evB, evIt, isV, isNo, bind_ok, bind_ex, guard_t, env0, mk_lst, mk_dct, mk_tup, mk_frz, mk_int, mk_bl, mk_str, mk_non, el_lst, el_dct, el_tup, el_frz, el_int, el_bl, el_str, el_non, new_own, new_top, new_pl, io_own, io_top, io_pl, asB_bl, asI_int, ent_top, ent_pl, fr_own, fr_top, fr_pl, pu_int, pu_bl, pu_str, pu_non, pu_tup, pu_lst, pu_nil, pu_cons, pe_lst', no_nil, no_cons, al_nil, al_cons, od_rt, od_nx, ofO_some, d_add, d_sub, d_mul, d_div, d_mod, d_cat, d_catT, c_eqI, c_neI, c_lt, c_le, c_gt, c_ge, List.map_cons, List.map_nil, List.length_cons, List.length_nil, List.getElem?_cons_zero, List.getElem?_cons_succ, List.set_cons_zero, List.set_cons_succ, List.cons_append, List.nil_append, List.append_nil, List.replicate, Nat.reduceAdd, Nat.reduceSub, Bool.true_and, Bool.and_true, Bool.false_and, Bool.and_false, Bool.true_or, Bool.or_true, Bool.false_or, Bool.or_false, Bool.not_true, Bool.not_false, if_true, if_false, Bool.false_eq_true, reduceIte, a1]; exact rfl))
    apply seq_step
    · exact hmany _ _
    apply seq_step
    · rw [evS, lc_r1 (n := many) (kd := .pl true) (rs := (List.range many).map fun j => (.pl true, (pf j).D)) (by simp (disch := (first | trivial | omega | (simp only [true_and, and_true, lim, List.length_cons, List.length_nil, List.length_map, List.length_append] <;> first | trivial | omega) | assumption)) only [asOwn, asOwnL, runB, evSs, evS, evE, evEs, evB, evIt, isV, isNo, bind_ok, bind_ex, guard_t, env0, mk_lst, mk_dct, mk_tup, mk_frz, mk_int, mk_bl, mk_str, mk_non, el_lst, el_dct, el_tup, el_frz, el_int, el_bl, el_str, el_non, new_own, new_top, new_pl, io_own, io_top, io_pl, asB_bl, asI_int, ent_top, ent_pl, fr_own, fr_top, fr_pl, pu_int, pu_bl, pu_str, pu_non, pu_tup, pu_lst, pu_nil, pu_cons, pe_lst', no_nil, no_cons, al_nil, al_cons, od_rt, od_nx, ofO_some, d_add, d_sub, d_mul, d_div, d_mod, d_cat, d_catT, c_eqI, c_neI, c_lt, c_le, c_gt, c_ge, List.map_cons, List.map_nil, List.length_cons, List.length_nil, List.getElem?_cons_zero, List.getElem?_cons_succ, List.set_cons_zero, List.set_cons_succ, List.cons_append, List.nil_append, List.append_nil, List.replicate, Nat.reduceAdd, Nat.reduceSub, Bool.true_and, Bool.and_true, Bool.false_and, Bool.and_false, Bool.true_or, Bool.or_true, Bool.false_or, Bool.or_false, Bool.not_true, Bool.not_false, if_true, if_false, Bool.false_eq_true, reduceIte]) (by omega) rfl (noOwn_map _ _ fun _ _ => rfl) (compM_rng _ fun j hj => by
        have e1 := (hpf j (by omega)).2
        have e2 := hm (k := 2 + (j : Int)) (by omega)
        rw [show ((inp + j : Nat) : Int) = (inp : Int) + j by omega] at e1
        simp (disch := (first | trivial | omega | (simp only [true_and, and_true, lim, List.length_cons, List.length_nil, List.length_map, List.length_append] <;> first | trivial | omega) | assumption)) only [asOwn, asOwnL, runB, evSs, evS, evE, evEs, evB, evIt, isV, isNo, bind_ok, bind_ex, guard_t, env0, mk_lst, mk_dct, mk_tup, mk_frz, mk_int, mk_bl, mk_str, mk_non, el_lst, el_dct, el_tup, el_frz, el_int, el_bl, el_str, el_non, new_own, new_top, new_pl, io_own, io_top, io_pl, asB_bl, asI_int, ent_top, ent_pl, fr_own, fr_top, fr_pl, pu_int, pu_bl, pu_str, pu_non, pu_tup, pu_lst, pu_nil, pu_cons, pe_lst', no_nil, no_cons, al_nil, al_cons, od_rt, od_nx, ofO_some, d_add, d_sub, d_mul, d_div, d_mod, d_cat, d_catT, c_eqI, c_neI, c_lt, c_le, c_gt, c_ge, List.map_cons, List.map_nil, List.length_cons, List.length_nil, List.getElem?_cons_zero, List.getElem?_cons_succ, List.set_cons_zero, List.set_cons_succ, List.cons_append, List.nil_append, List.append_nil, List.replicate, Nat.reduceAdd, Nat.reduceSub, Bool.true_and, Bool.and_true, Bool.false_and, Bool.and_false, Bool.true_or, Bool.or_true, Bool.false_or, Bool.or_false, Bool.not_true, Bool.not_false, if_true, if_false, Bool.false_eq_true, reduceIte, bindT_1, setE_int, wipe_1, e2, e1, mk_pt])]
      have al : allNew ((List.range many).map fun j => ((Kd.pl true, (pf j).D) : R)) = true := allNew_map _ _ fun _ _ => rfl
      simp (disch := (first | trivial | omega | (simp only [true_and, and_true, lim, List.length_cons, List.length_nil, List.length_map, List.length_append] <;> first | trivial | omega) | assumption)) only [asOwn, asOwnL, runB, evSs, evS, evE, evEs, evB, evIt, isV, isNo, bind_ok, bind_ex, guard_t, env0, mk_lst, mk_dct, mk_tup, mk_frz, mk_int, mk_bl, mk_str, mk_non, el_lst, el_dct, el_tup, el_frz, el_int, el_bl, el_str, el_non, new_own, new_top, new_pl, io_own, io_top, io_pl, asB_bl, asI_int, ent_top, ent_pl, fr_own, fr_top, fr_pl, pu_int, pu_bl, pu_str, pu_non, pu_tup, pu_lst, pu_nil, pu_cons, pe_lst', no_nil, no_cons, al_nil, al_cons, od_rt, od_nx, ofO_some, d_add, d_sub, d_mul, d_div, d_mod, d_cat, d_catT, c_eqI, c_neI, c_lt, c_le, c_gt, c_ge, List.map_cons, List.map_nil, List.length_cons, List.length_nil, List.getElem?_cons_zero, List.getElem?_cons_succ, List.set_cons_zero, List.set_cons_succ, List.cons_append, List.nil_append, List.append_nil, List.replicate, Nat.reduceAdd, Nat.reduceSub, Bool.true_and, Bool.and_true, Bool.false_and, Bool.and_false, Bool.true_or, Bool.or_true, Bool.false_or, Bool.or_false, Bool.not_true, Bool.not_false, if_true, if_false, Bool.false_eq_true, reduceIte, al]
      exact rfl
    apply seq_rt
    show _ = M.ok (Out.rt (D.tup [.int ring, .int inp, .lst (((List.range many).map pf).map Pt.D)]))
    simp (disch := (first | trivial | omega | (simp only [true_and, and_true, lim, List.length_cons, List.length_nil, List.length_map, List.length_append] <;> first | trivial | omega) | assumption)) only [asOwn, asOwnL, runB, evSs, evS, evE, evEs, evB, evIt, isV, isNo, bind_ok, bind_ex, guard_t, env0, mk_lst, mk_dct, mk_tup, mk_frz, mk_int, mk_bl, mk_str, mk_non, el_lst, el_dct, el_tup, el_frz, el_int, el_bl, el_str, el_non, new_own, new_top, new_pl, io_own, io_top, io_pl, asB_bl, asI_int, ent_top, ent_pl, fr_own, fr_top, fr_pl, pu_int, pu_bl, pu_str, pu_non, pu_tup, pu_lst, pu_nil, pu_cons, pe_lst', no_nil, no_cons, al_nil, al_cons, od_rt, od_nx, ofO_some, d_add, d_sub, d_mul, d_div, d_mod, d_cat, d_catT, c_eqI, c_neI, c_lt, c_le, c_gt, c_ge, List.map_cons, List.map_nil, List.length_cons, List.length_nil, List.getElem?_cons_zero, List.getElem?_cons_succ, List.set_cons_zero, List.set_cons_succ, List.cons_append, List.nil_append, List.append_nil, List.replicate, Nat.reduceAdd, Nat.reduceSub, Bool.true_and, Bool.and_true, Bool.false_and, Bool.and_false, Bool.true_or, Bool.or_true, Bool.false_or, Bool.or_false, Bool.not_true, Bool.not_false, if_true, if_false, Bool.false_eq_true, reduceIte, List.map_map]
    rfl
end PyV
namespace PyV
open PySem L2
/-! ### what a run has at a line -/
theorem ranI_pre (ring : Int) (t : List (Int × Int)) : ∀ (ps : List Pt) (k : Nat) (ds : List Int) (j : Nat), j < ds.length → (ranI ring t k ps ds)[j]? = ds[j]?
  | [], _, _, _, _ => rfl
  | p :: ps, k, ds, j, h => by
    show (ranI ring t (k + 1) ps _)[j]? = _
    rw [ranI_pre ring t ps (k + 1) _ j (by rw [List.length_append]; omega), List.getElem?_append_left h]
theorem dig_pre (ring : Int) (t : List (Int × Int)) (ps : List Pt) (k : Nat) (ds : List Int) {j : Int} (h : 0 ≤ j ∧ j < ds.length) : dig (ranI ring t k ps ds) j = dig ds j := by
  unfold dig
  rw [List.getD_eq_getElem?_getD, List.getD_eq_getElem?_getD, ranI_pre ring t ps k ds j.toNat (by omega)]
theorem val_pre {p : Pt} {n : Nat} (h : p.ok n) (ring : Int) {ds es : List Int} (e : ∀ j : Int, 0 ≤ j ∧ j < n → dig ds j = dig es j) : p.val ring ds = p.val ring es :=
  Pt.cases (P := fun p => p.val ring ds = p.val ring es) h (fun a ha => by simp [Pt.val, Wd.val, e a ha]) (fun a b ha hb => by simp [Pt.val, Wd.val, e a ha, e b hb]) (fun a b ha hb => by simp [Pt.val, Wd.val, e a ha, e b hb])
    (fun a b c ha hb hc => by simp [Pt.val, Wd.val, e a ha, e b hb, e c hc])
theorem ran_at {w : Wk} (hw : w.ok) {gs : List Int} (hl : gs.length = w.inp) (t : List (Int × Int)) {k : Nat} {p : Pt} (h : w.parts[k]? = some p) :
    dig (ranI w.ring t 0 w.parts gs) ((w.inp + k : Nat) : Int) = ruleI w.ring t k p (ranI w.ring t 0 w.parts gs) := by
  have hk : k < w.parts.length := (List.getElem?_eq_some_iff.mp h).1
  have hlen : (ranI w.ring t 0 (w.parts.take k) gs).length = w.inp + k := by rw [ranI_len, List.length_take, hl]; omega
  have e0 : ranI w.ring t 0 w.parts gs = ranI w.ring t (k + 1) (w.parts.drop (k + 1)) (ranI w.ring t 0 (w.parts.take k) gs ++ [ruleI w.ring t k p (ranI w.ring t 0 (w.parts.take k) gs)]) := by
    have := ranI_app w.ring t (w.parts.take (k + 1)) (w.parts.drop (k + 1)) 0 gs
    rw [List.take_append_drop, List.length_take, show 0 + min (k + 1) w.parts.length = k + 1 by omega, ranI_take w.ring t h] at this
    exact this
  have e1 : ∀ j : Int, 0 ≤ j ∧ j < (w.inp + k : Nat) → dig (ranI w.ring t 0 (w.parts.take k) gs) j = dig (ranI w.ring t 0 w.parts gs) j := fun j hj => by
    have q := dig_pre w.ring t (w.parts.drop (k + 1)) (k + 1) (ranI w.ring t 0 (w.parts.take k) gs ++ [ruleI w.ring t k p (ranI w.ring t 0 (w.parts.take k) gs)]) (j := j) (by rw [List.length_append, hlen]; simp; omega)
    rw [e0, q]
    unfold dig
    rw [List.getD_eq_getElem?_getD, List.getD_eq_getElem?_getD, List.getElem?_append_left (by omega)]
  have e2 : ruleI w.ring t k p (ranI w.ring t 0 (w.parts.take k) gs) = ruleI w.ring t k p (ranI w.ring t 0 w.parts gs) := by
    unfold ruleI
    rw [val_pre (hw.at_ k p h) w.ring e1]
  have q := dig_pre w.ring t (w.parts.drop (k + 1)) (k + 1) (ranI w.ring t 0 (w.parts.take k) gs ++ [ruleI w.ring t k p (ranI w.ring t 0 (w.parts.take k) gs)]) (j := ((w.inp + k : Nat) : Int)) (by rw [List.length_append, hlen]; simp; omega)
  rw [← e2, e0, q]
  unfold dig
  rw [List.getD_eq_getElem?_getD, show ((w.inp + k : Nat) : Int).toNat = (ranI w.ring t 0 (w.parts.take k) gs).length by omega, List.getElem?_append_right (Nat.le_refl _)]
  simp
/-! ### dicts of ints -/
def putI (t : List (Int × Int)) (k v : Int) : List (Int × Int) := if (t.any fun p => decide (p.1 = k)) then t.map (fun p => if p.1 = k then (p.1, v) else p) else t ++ [(k, v)]
theorem put_t (t : List (Int × Int)) (k v : Int) : putD (tK t) (.inl k) (.int v) = tK (putI t k v) := by
  have inj : ∀ a : Int, decide ((Sum.inl a : Key) = .inl k) = decide (a = k) := fun a => by
    by_cases h : a = k
    · subst h; simp
    · rw [decide_eq_false h, decide_eq_false fun z => h (Sum.inl.inj z)]
  have ea : (tK t).any (fun kv => decide (kv.1 = .inl k)) = t.any fun p => decide (p.1 = k) := by
    unfold tK
    rw [List.any_map]
    congr 1
    funext p
    exact inj p.1
  unfold putD putI
  rw [ea]
  split
  · unfold tK
    rw [List.map_map, List.map_map]
    apply List.map_congr_left
    intro p _
    by_cases h : p.1 = k
    · subst h; simp
    · have h' : (Sum.inl p.1 : Key) ≠ .inl k := fun z => h (Sum.inl.inj z)
      simp [h, h']
  · unfold tK
    rw [List.map_append]
    rfl
theorem sub_t {t : List (Int × Int)} (h : t.length < 1000000) (k v : Int) : subD (tD t) (.int k) (.int v) = .ok (tD (putI t k v)) := by
  show guard' ((tK t).length < lim) (M.ok (D.dct (putD (tK t) (.inl k) (.int v)))) = _
  rw [guard_t (by unfold tK lim; rw [List.length_map]; exact h), put_t]
  rfl
theorem putI_len (t : List (Int × Int)) (k v : Int) : (putI t k v).length ≤ t.length + 1 := by
  unfold putI
  split
  · rw [List.length_map]; omega
  · simp
def GoodT (t : List (Int × Int)) : Prop := ∀ p ∈ t, lookI t p.1 = some p.2
theorem look_map (t : List (Int × Int)) (k v j : Int) : lookI (t.map fun p => if p.1 = k then (p.1, v) else p) j = if j = k then (lookI t k).map fun _ => v else lookI t j := by
  induction t with
  | nil => simp [lookI]
  | cons p t ih =>
    unfold lookI at ih ⊢
    rw [List.map_cons, List.find?_cons, List.find?_cons, List.find?_cons]
    by_cases hp : p.1 = k
    · simp only [hp, if_true]
      by_cases hj : k = j
      · subst hj; simp
      · have hj' : ¬ j = k := fun z => hj z.symm
        simp only [decide_eq_false hj, if_neg hj']
        rw [ih, if_neg hj']
    · simp only [hp, if_false]
      by_cases hj : p.1 = j
      · subst hj; simp [hp]
      · simp only [decide_eq_false hj, decide_eq_false hp]
        exact ih
theorem look_app (t : List (Int × Int)) (k v j : Int) (h : (t.any fun p => decide (p.1 = k)) = false) : lookI (t ++ [(k, v)]) j = if j = k then some v else lookI t j := by
  induction t with
  | nil =>
    by_cases hj : k = j
    · subst hj; simp [lookI]
    · have hj' : ¬ j = k := fun z => hj z.symm
      simp [lookI, hj, hj']
  | cons p t ih =>
    rw [List.any_cons, Bool.or_eq_false_iff] at h
    have hp : ¬ p.1 = k := of_decide_eq_false h.1
    have ih := ih h.2
    unfold lookI at ih ⊢
    rw [List.cons_append, List.find?_cons, List.find?_cons]
    by_cases hj : p.1 = j
    · subst hj; simp [hp]
    · simp only [decide_eq_false hj]
      exact ih
theorem look_put (t : List (Int × Int)) (k v j : Int) : lookI (putI t k v) j = if j = k then some v else lookI t j := by
  unfold putI
  split
  · rename_i h
    rw [look_map]
    by_cases hj : j = k
    · rw [if_pos hj, if_pos hj]
      obtain ⟨p, hp, hk⟩ := List.any_eq_true.mp h
      have : ∃ q, t.find? (fun p => decide (p.1 = k)) = some q := by
        cases e : t.find? (fun p => decide (p.1 = k)) with
        | some q => exact ⟨q, rfl⟩
        | none => exact absurd hk (by simpa using List.find?_eq_none.mp e p hp)
      obtain ⟨q, e⟩ := this
      unfold lookI
      rw [e]
      rfl
    · rw [if_neg hj, if_neg hj]
  · rename_i h
    exact look_app t k v j (Bool.eq_false_iff.mpr h)
theorem good_nil : GoodT [] := fun p h => by cases h
theorem good_put {t : List (Int × Int)} (h : GoodT t) (k v : Int) : GoodT (putI t k v) := by
  intro p hp
  rw [look_put]
  unfold putI at hp
  split at hp
  · obtain ⟨q, hq, rfl⟩ := List.mem_map.mp hp
    by_cases e : q.1 = k
    · simp [e]
    · simp only [e, if_false]
      exact h q hq
  · rename_i ha
    rcases List.mem_append.mp hp with hq | hq
    · have e : ¬ p.1 = k := fun z => ha (List.any_eq_true.mpr ⟨p, hq, decide_eq_true z⟩)
      rw [if_neg e]
      exact h p hq
    · have : p = (k, v) := by simpa using hq
      subst this
      simp
theorem good_eq {t : List (Int × Int)} (h : GoodT t) : dEqK (tK t) (tK t) = true := by
  unfold dEqK
  rw [decide_eq_true rfl, Bool.true_and, List.all_eq_true]
  intro q hq
  obtain ⟨p, hp, rfl⟩ := List.mem_map.mp hq
  dsimp only
  rw [look_t, h p hp]
  exact decide_eq_true rfl
theorem ne_t {t : List (Int × Int)} (h : GoodT t) : dCmp .NotEq (tD t) (tD t) = .ok (.bl false) := guard_t (p := dEqK (tK t) (tK t) = true) (good_eq h)
theorem eq_t {t : List (Int × Int)} (h : GoodT t) : dCmp .Eq (tD t) (tD t) = .ok (.bl true) := guard_t (p := dEqK (tK t) (tK t) = true) (good_eq h)
theorem asD_t (k : Kd) (t : List (Int × Int)) : asDct (k, tD t) = .ok (tK t) := rfl
theorem get_t (k k2 : Kd) (b : Bool) (t : List (Int × Int)) (i v : Int) : getD k (tK t) (k2, .int i) (.pl b, .int v) = .ok (.pl true, .int ((lookI t i).getD v)) := by
  show guard' (Kd.isOwn (.pl b) = false) (M.ok (elR (k.new && (Kd.pl b).new) ((lookD (tK t) (.inl i)).getD (.int v)))) = _
  rw [guard_t (p := Kd.isOwn (.pl b) = false) rfl, look_t]
  cases lookI t i <;> rfl
theorem dict_t (t : List (Int × Int)) : dBlt .dict [tD t] = .ok (tD t) := rfl
theorem mk_t (n : Bool) (t : List (Int × Int)) : mkR n (tD t) = (.top n, tD t) := rfl
theorem el_t (n : Bool) (t : List (Int × Int)) : elR n (tD t) = (.pl n, tD t) := rfl
theorem mk_w (n : Bool) (w : Wk) : mkR n w.D = (.pl n, w.D) := rfl
theorem el_w (n : Bool) (w : Wk) : elR n w.D = (.pl n, w.D) := rfl
theorem mkDct_nil : mkDct [] = .ok (.top true, tD []) := rfl
theorem ix_pts {ps : List Pt} {k : Nat} {p : Pt} (h : ps[k]? = some p) : dIx (.lst (ps.map Pt.D)) (.int k) = .ok p.D := by
  have hk : k < ps.length := (List.getElem?_eq_some_iff.mp h).1
  rw [ix_lst (by rw [List.length_map]; omega), List.getElem?_map, Int.toNat_natCast, h]
  rfl
theorem nice_pt (p : Pt) : Nice 1 p.D := by
  intro x hx
  rcases List.mem_cons.mp hx with e | e
  · subst e
    obtain ⟨w, ls⟩ := p
    cases w
    · exact ok_sum
    · exact ok_stop
    · exact ok_pick
    · exact ok_not
  · exact nice_ints p.ls x e
theorem nice_pts (ps : List Pt) : Nice 2 (.lst (ps.map Pt.D)) := fun x hx => by
  obtain ⟨p, _, rfl⟩ := List.mem_map.mp hx
  exact nice_pt p
theorem pureL_pts (ps : List Pt) : pureL (ps.map Pt.D) = true := by
  induction ps with
  | nil => rfl
  | cons p ps ih =>
    show (pureD p.D && pureL (ps.map Pt.D)) = true
    rw [ih, Bool.and_true]
    show (pureD (.str p.w.str) && pureL (p.ls.map PyV.D.int)) = true
    rw [pureL_ints]
    rfl
def tab6 (j : Nat) : Int := match j with
  | 0 => 1
  | 1 => 5
  | 2 => 25
  | 3 => 125
  | 4 => 625
  | _ => 3125
theorem tab6_at {j : Nat} (h : j < 6) : dIx (.lst [.int 1, .int 5, .int 25, .int 125, .int 625, .int 3125]) (.int j) = .ok (.int (tab6 j)) := by
  have h4 : j = 0 ∨ j = 1 ∨ j = 2 ∨ j = 3 ∨ j = 4 ∨ j = 5 := by omega
  rcases h4 with h | h | h | h | h | h <;> subst h <;> rfl
theorem tab6_pos (j : Nat) : 0 < tab6 j ∧ tab6 j < 1073741824 := by
  unfold tab6
  split <;> decide
section
variable {S : Sig} {s : IS} {ss body : ISs} {ρ : Env} {r : M Out} {kd : Kd} {a : IE} {ts : List Nat}
theorem for_r1P {n : Nat} (P : Nat → Env → Prop) (h : evE S a ρ = .ok (kd, .int n)) (hn : n < 1000000) (h0 : P 0 ρ)
    (st : ∀ (j : Nat) ρ, j < n → P j ρ → ∃ ρ', ((bindT true (.int j) ρ ts).bind fun ρ' => evSs S body ρ') = .ok (.nx ρ') ∧ P (j + 1) ρ') : ∃ ρ', evS S (.forr ts (.r1 a) body) ρ = .ok (.nx ρ') ∧ P n ρ' := by
  rw [for_r1 h hn]
  exact loop_rngP P h0 st
theorem for_sqP {x : D} {xs : List D} (P : Nat → Env → Prop) (h : evE S a ρ = .ok (kd, x)) (hx : itemsOf x = some xs) (hk : kd.isOwn = false) (h0 : P 0 ρ)
    (st : ∀ (j : Nat) y ρ, xs[j]? = some y → P j ρ → ∃ ρ', ((bindT kd.new y ρ ts).bind fun ρ' => evSs S body ρ') = .ok (.nx ρ') ∧ P (j + 1) ρ') : ∃ ρ', evS S (.forr ts (.sq a) body) ρ = .ok (.nx ρ') ∧ P xs.length ρ' := by
  rw [for_sq h hx hk]
  have q := loop_pred (f := fun ρ x => (bindT kd.new x ρ ts).bind fun ρ' => evSs S body ρ') P xs 0 ρ (fun j x ρ hj hp => by
    rw [Nat.zero_add] at hp ⊢
    exact st j x ρ hj hp) h0
  rw [Nat.zero_add] at q
  exact q
theorem for_enP {xs : List D} (P : Nat → Env → Prop) (h : evE S a ρ = .ok (kd, .lst xs)) (hk : kd.isOwn = false) (h0 : P 0 ρ)
    (st : ∀ (j : Nat) y ρ, xs[j]? = some y → P j ρ → ∃ ρ', ((bindT kd.new (.prs [.int (j : Nat), y]) ρ ts).bind fun ρ' => evSs S body ρ') = .ok (.nx ρ') ∧ P (j + 1) ρ') : ∃ ρ', evS S (.forr ts (.en a) body) ρ = .ok (.nx ρ') ∧ P xs.length ρ' := by
  rw [for_en h hk]
  have q := loop_pred (f := fun ρ x => (bindT kd.new x ρ ts).bind fun ρ' => evSs S body ρ') P (enumD xs) 0 ρ (fun j x ρ hj hp => by
    rw [Nat.zero_add] at hp ⊢
    obtain ⟨y, hy, rfl⟩ := enum_get hj
    exact st j y ρ hy hp) h0
  rw [Nat.zero_add, enum_len] at q
  exact q
theorem seq_P {P : Env → Prop} (h : ∃ ρ', evS S s ρ = .ok (.nx ρ') ∧ P ρ') (g : ∀ ρ', P ρ' → evSs S ss ρ' = r) : evSs S (.cons s ss) ρ = r := by
  obtain ⟨ρ', e, p⟩ := h
  exact seq_step e (g ρ' p)
end
end PyV
namespace PyV
open PySem L2
/-! ### looks, sets -/
def pD (p : Int × Int) : D := .tup [.int p.1, .int p.2]
def sD (sn : List (Int × Int)) : D := .tup (sn.map pD)
def bD (br : List Int) : D := .tup (br.map D.int)
def SeenFrom (w : Wk) : Int → List (Int × Int) → Prop
  | _, [] => True
  | a, p :: r => (a < p.1 ∧ p.1 < w.inp + w.parts.length ∧ 0 ≤ p.2 ∧ p.2 < w.ring) ∧ SeenFrom w p.1 r
def SetFrom (n : Nat) : Int → List Int → Prop
  | _, [] => True
  | a, p :: r => (a < p ∧ p < n) ∧ SetFrom n p r
theorem seen_len {w : Wk} (h1 : w.inp ≤ 6) (h2 : w.parts.length ≤ 10) : ∀ {sn : List (Int × Int)} {a : Int}, SeenFrom w a sn → 0 ≤ a + 1 → (sn.length : Int) + a < w.inp + w.parts.length ∨ sn = []
  | [], _, _, _ => .inr rfl
  | p :: r, a, h, h0 => by
    obtain ⟨⟨g1, g2, _, _⟩, g⟩ := h
    rcases seen_len h1 h2 g (by omega) with q | q
    · left; rw [List.length_cons]; omega
    · left; subst q; simp; omega
theorem set_len {n : Nat} : ∀ {br : List Int} {a : Int}, SetFrom n a br → (br.length : Int) + a < n ∨ br = []
  | [], _, _ => .inr rfl
  | p :: r, a, h => by
    obtain ⟨⟨g1, g2⟩, g⟩ := h
    rcases set_len g with q | q
    · left; rw [List.length_cons]; omega
    · left; subst q; simp; omega
def seenF (ia : Nat) : Fn := ⟨2, 4, (.cons (.iff (.nt (.bl .isi (.cons (.v 1) (.cons (.ty "tuple") .nil)))) (.cons (.rai "BadLook") .nil) .nil) (.cons (.set 2 false (.bin .Sub (.ix (.v 0) (.ki 1)) (.ki 1))) (.cons (.forr [3] (.sq (.v 1)) (.cons (.iff (.bop .Or (.cons (.nt (.bl .isi (.cons (.v 3) (.cons (.ty "tuple") .nil)))) (.cons (.cmp .NotEq (.bl .len (.cons (.v 3) .nil)) (.ki 2)) .nil))) (.cons (.rai "BadLook") .nil) .nil) (.cons (.iff (.nt (.call ia (.cons (.ix (.v 3) (.ki 0)) (.cons (.bin .Add (.v 2) (.ki 1)) (.cons (.bin .Sub (.bin .Add (.ix (.v 0) (.ki 1)) (.bl .len (.cons (.ix (.v 0) (.ki 2)) .nil))) (.ki 1)) .nil))))) (.cons (.rai "BadLook") .nil) .nil) (.cons (.iff (.nt (.call ia (.cons (.ix (.v 3) (.ki 1)) (.cons (.ki 0) (.cons (.bin .Sub (.ix (.v 0) (.ki 0)) (.ki 1)) .nil))))) (.cons (.rai "BadLook") .nil) .nil) (.cons (.set 2 false (.ix (.v 3) (.ki 0))) .nil))))) .nil)))⟩
theorem bindT_pD (p : Int × Int) (ρ : Env) (i : Nat) : bindT false (pD p) ρ [i] = .ok (ρ.set i (some (.old, pD p))) := rfl
theorem ixp0 (p : Int × Int) : dIx (pD p) (.int 0) = .ok (.int p.1) := rfl
theorem ixp1 (p : Int × Int) : dIx (pD p) (.int 1) = .ok (.int p.2) := rfl
theorem isi_p (p : Int × Int) : dBlt .isi [pD p, .opq (.ty "tuple")] = .ok (.bl true) := isi_tt _
theorem len_p (p : Int × Int) : dBlt .len [pD p] = .ok (.int 2) := rfl
theorem run_seen (S : Sig) (ia : Nat) (hS : ∀ i lo hi : Int, S.call ia [.int i, .int lo, .int hi] = .ok (.bl (decide (lo ≤ i) && decide (i ≤ hi)))) {w : Wk} (hw : w.ok) {sn : List (Int × Int)} (h : SeenFrom w (w.inp - 1) sn) : runB S (seenF ia) [w.D, sD sn] = .ok .non := by
  have key : ∀ (r : List (Int × Int)) (a : Int) (s3 : Option (Tg × D)), SeenFrom w a r → ∃ ρ', loopM (fun ρ x => (bindT (Kd.pl false).new x ρ [3]).bind fun ρ' => evSs S (.cons (.iff (.bop .Or (.cons (.nt (.bl .isi (.cons (.v 3) (.cons (.ty "tuple") .nil)))) (.cons (.cmp .NotEq (.bl .len (.cons (.v 3) .nil)) (.ki 2)) .nil))) (.cons (.rai "BadLook") .nil) .nil) (.cons (.iff (.nt (.call ia (.cons (.ix (.v 3) (.ki 0)) (.cons (.bin .Add (.v 2) (.ki 1)) (.cons (.bin .Sub (.bin .Add (.ix (.v 0) (.ki 1)) (.bl .len (.cons (.ix (.v 0) (.ki 2)) .nil))) (.ki 1)) .nil))))) (.cons (.rai "BadLook") .nil) .nil) (.cons (.iff (.nt (.call ia (.cons (.ix (.v 3) (.ki 1)) (.cons (.ki 0) (.cons (.bin .Sub (.ix (.v 0) (.ki 0)) (.ki 1)) .nil))))) (.cons (.rai "BadLook") .nil) .nil) (.cons (.set 2 false (.ix (.v 3) (.ki 0))) .nil)))) ρ') (r.map pD)
      [some (.old, w.D), some (.old, sD sn), some (.new, .int a), s3] = .ok (.nx ρ') := by
    intro r
    induction r with
    | nil => intro a s3 _; exact ⟨_, rfl⟩
    | cons p r ih =>
      intro a s3 hr
      obtain ⟨⟨g1, g2, g3, g4⟩, g⟩ := hr
      obtain ⟨ρ', e⟩ := ih p.1 (some (.old, pD p)) g
      refine ⟨ρ', ?_⟩
      rw [List.map_cons]
      show M.bind (M.bind (bindT false (pD p) _ [3]) _) _ = _
      rw [bindT_pD, bind_ok]
      have d1 : decide (a + 1 ≤ p.1) = true := decide_eq_true (by omega)
      have d2 : decide (p.1 ≤ (w.inp : Int) + w.parts.length - 1) = true := decide_eq_true (by omega)
      have d3 : decide (0 ≤ p.2) = true := decide_eq_true g3
      have d4 : decide (p.2 ≤ w.ring - 1) = true := decide_eq_true (by omega)
      have e1 : evSs S (.cons (.iff (.bop .Or (.cons (.nt (.bl .isi (.cons (.v 3) (.cons (.ty "tuple") .nil)))) (.cons (.cmp .NotEq (.bl .len (.cons (.v 3) .nil)) (.ki 2)) .nil))) (.cons (.rai "BadLook") .nil) .nil) (.cons (.iff (.nt (.call ia (.cons (.ix (.v 3) (.ki 0)) (.cons (.bin .Add (.v 2) (.ki 1)) (.cons (.bin .Sub (.bin .Add (.ix (.v 0) (.ki 1)) (.bl .len (.cons (.ix (.v 0) (.ki 2)) .nil))) (.ki 1)) .nil))))) (.cons (.rai "BadLook") .nil) .nil) (.cons (.iff (.nt (.call ia (.cons (.ix (.v 3) (.ki 1)) (.cons (.ki 0) (.cons (.bin .Sub (.ix (.v 0) (.ki 0)) (.ki 1)) .nil))))) (.cons (.rai "BadLook") .nil) .nil) (.cons (.set 2 false (.ix (.v 3) (.ki 0))) .nil)))) ([some (.old, w.D), some (.old, sD sn), some (.new, .int a), s3].set 3 (some (.old, pD p))) = .ok (.nx [some (.old, w.D), some (.old, sD sn), some (.new, .int p.1), some (.old, pD p)]) := by
        apply seq_step
        · refine if_f (k := .pl true) ?_ seq_nil
          simp (disch := (first | trivial | omega | (simp only [true_and, and_true, lim, List.length_cons, List.length_nil, List.length_map, List.length_append] <;> first | trivial | omega) | assumption)) only [asOwn, asOwnL, runB, evSs, evS, evE, evEs, evB, evIt, isV, isNo, bind_ok, bind_ex, guard_t, env0, mk_lst, mk_dct, mk_tup, mk_frz, mk_int, mk_bl, mk_str, mk_non, el_lst, el_dct, el_tup, el_frz, el_int, el_bl, el_str, el_non, new_own, new_top, new_pl, io_own, io_top, io_pl, asB_bl, asI_int, ent_top, ent_pl, fr_own, fr_top, fr_pl, pu_int, pu_bl, pu_str, pu_non, pu_tup, pu_lst, pu_nil, pu_cons, pe_lst', no_nil, no_cons, al_nil, al_cons, od_rt, od_nx, ofO_some, d_add, d_sub, d_mul, d_div, d_mod, d_cat, d_catT, c_eqI, c_neI, c_lt, c_le, c_gt, c_ge, List.map_cons, List.map_nil, List.length_cons, List.length_nil, List.getElem?_cons_zero, List.getElem?_cons_succ, List.set_cons_zero, List.set_cons_succ, List.cons_append, List.nil_append, List.append_nil, List.replicate, Nat.reduceAdd, Nat.reduceSub, Bool.true_and, Bool.and_true, Bool.false_and, Bool.and_false, Bool.true_or, Bool.or_true, Bool.false_or, Bool.or_false, Bool.not_true, Bool.not_false, if_true, if_false, Bool.false_eq_true, reduceIte, isi_p, len_p, eq_self, decide_true]
        apply seq_step
        · refine if_f (k := .pl true) ?_ seq_nil
          simp (disch := (first | trivial | omega | (simp only [true_and, and_true, lim, List.length_cons, List.length_nil, List.length_map, List.length_append] <;> first | trivial | omega) | assumption)) only [asOwn, asOwnL, runB, evSs, evS, evE, evEs, evB, evIt, isV, isNo, bind_ok, bind_ex, guard_t, env0, mk_lst, mk_dct, mk_tup, mk_frz, mk_int, mk_bl, mk_str, mk_non, el_lst, el_dct, el_tup, el_frz, el_int, el_bl, el_str, el_non, new_own, new_top, new_pl, io_own, io_top, io_pl, asB_bl, asI_int, ent_top, ent_pl, fr_own, fr_top, fr_pl, pu_int, pu_bl, pu_str, pu_non, pu_tup, pu_lst, pu_nil, pu_cons, pe_lst', no_nil, no_cons, al_nil, al_cons, od_rt, od_nx, ofO_some, d_add, d_sub, d_mul, d_div, d_mod, d_cat, d_catT, c_eqI, c_neI, c_lt, c_le, c_gt, c_ge, List.map_cons, List.map_nil, List.length_cons, List.length_nil, List.getElem?_cons_zero, List.getElem?_cons_succ, List.set_cons_zero, List.set_cons_succ, List.cons_append, List.nil_append, List.append_nil, List.replicate, Nat.reduceAdd, Nat.reduceSub, Bool.true_and, Bool.and_true, Bool.false_and, Bool.and_false, Bool.true_or, Bool.or_true, Bool.false_or, Bool.or_false, Bool.not_true, Bool.not_false, if_true, if_false, Bool.false_eq_true, reduceIte, ixp0, ixw1, ixw2, len_lst, List.length_map, hS, d1, d2]
        apply seq_step
        · refine if_f (k := .pl true) ?_ seq_nil
          simp (disch := (first | trivial | omega | (simp only [true_and, and_true, lim, List.length_cons, List.length_nil, List.length_map, List.length_append] <;> first | trivial | omega) | assumption)) only [asOwn, asOwnL, runB, evSs, evS, evE, evEs, evB, evIt, isV, isNo, bind_ok, bind_ex, guard_t, env0, mk_lst, mk_dct, mk_tup, mk_frz, mk_int, mk_bl, mk_str, mk_non, el_lst, el_dct, el_tup, el_frz, el_int, el_bl, el_str, el_non, new_own, new_top, new_pl, io_own, io_top, io_pl, asB_bl, asI_int, ent_top, ent_pl, fr_own, fr_top, fr_pl, pu_int, pu_bl, pu_str, pu_non, pu_tup, pu_lst, pu_nil, pu_cons, pe_lst', no_nil, no_cons, al_nil, al_cons, od_rt, od_nx, ofO_some, d_add, d_sub, d_mul, d_div, d_mod, d_cat, d_catT, c_eqI, c_neI, c_lt, c_le, c_gt, c_ge, List.map_cons, List.map_nil, List.length_cons, List.length_nil, List.getElem?_cons_zero, List.getElem?_cons_succ, List.set_cons_zero, List.set_cons_succ, List.cons_append, List.nil_append, List.append_nil, List.replicate, Nat.reduceAdd, Nat.reduceSub, Bool.true_and, Bool.and_true, Bool.false_and, Bool.and_false, Bool.true_or, Bool.or_true, Bool.false_or, Bool.or_false, Bool.not_true, Bool.not_false, if_true, if_false, Bool.false_eq_true, reduceIte, ixp1, ixw0, hS, d3, d4]
        refine seq_last ?_
        simp (disch := (first | trivial | omega | (simp only [true_and, and_true, lim, List.length_cons, List.length_nil, List.length_map, List.length_append] <;> first | trivial | omega) | assumption)) only [asOwn, asOwnL, runB, evSs, evS, evE, evEs, evB, evIt, isV, isNo, bind_ok, bind_ex, guard_t, env0, mk_lst, mk_dct, mk_tup, mk_frz, mk_int, mk_bl, mk_str, mk_non, el_lst, el_dct, el_tup, el_frz, el_int, el_bl, el_str, el_non, new_own, new_top, new_pl, io_own, io_top, io_pl, asB_bl, asI_int, ent_top, ent_pl, fr_own, fr_top, fr_pl, pu_int, pu_bl, pu_str, pu_non, pu_tup, pu_lst, pu_nil, pu_cons, pe_lst', no_nil, no_cons, al_nil, al_cons, od_rt, od_nx, ofO_some, d_add, d_sub, d_mul, d_div, d_mod, d_cat, d_catT, c_eqI, c_neI, c_lt, c_le, c_gt, c_ge, List.map_cons, List.map_nil, List.length_cons, List.length_nil, List.getElem?_cons_zero, List.getElem?_cons_succ, List.set_cons_zero, List.set_cons_succ, List.cons_append, List.nil_append, List.append_nil, List.replicate, Nat.reduceAdd, Nat.reduceSub, Bool.true_and, Bool.and_true, Bool.false_and, Bool.and_false, Bool.true_or, Bool.or_true, Bool.false_or, Bool.or_false, Bool.not_true, Bool.not_false, if_true, if_false, Bool.false_eq_true, reduceIte, ixp0]
      rw [e1]
      exact e
  have hb : evSs S (seenF ia).body (env0 4 [w.D, sD sn]) = .ok (.nx (Classical.choose (key sn (w.inp - 1) none h))) := by
    unfold seenF
    apply seq_step
    · refine if_f (k := .pl true) ?_ seq_nil
      have := isi_tt (sn.map pD)
      unfold sD
      simp (disch := (first | trivial | omega | (simp only [true_and, and_true, lim, List.length_cons, List.length_nil, List.length_map, List.length_append] <;> first | trivial | omega) | assumption)) only [asOwn, asOwnL, runB, evSs, evS, evE, evEs, evB, evIt, isV, isNo, bind_ok, bind_ex, guard_t, env0, mk_lst, mk_dct, mk_tup, mk_frz, mk_int, mk_bl, mk_str, mk_non, el_lst, el_dct, el_tup, el_frz, el_int, el_bl, el_str, el_non, new_own, new_top, new_pl, io_own, io_top, io_pl, asB_bl, asI_int, ent_top, ent_pl, fr_own, fr_top, fr_pl, pu_int, pu_bl, pu_str, pu_non, pu_tup, pu_lst, pu_nil, pu_cons, pe_lst', no_nil, no_cons, al_nil, al_cons, od_rt, od_nx, ofO_some, d_add, d_sub, d_mul, d_div, d_mod, d_cat, d_catT, c_eqI, c_neI, c_lt, c_le, c_gt, c_ge, List.map_cons, List.map_nil, List.length_cons, List.length_nil, List.getElem?_cons_zero, List.getElem?_cons_succ, List.set_cons_zero, List.set_cons_succ, List.cons_append, List.nil_append, List.append_nil, List.replicate, Nat.reduceAdd, Nat.reduceSub, Bool.true_and, Bool.and_true, Bool.false_and, Bool.and_false, Bool.true_or, Bool.or_true, Bool.false_or, Bool.or_false, Bool.not_true, Bool.not_false, if_true, if_false, Bool.false_eq_true, reduceIte, this]
    (apply seq_step; focus (simp (disch := (first | trivial | omega | (simp only [true_and, and_true, lim, List.length_cons, List.length_nil, List.length_map, List.length_append] <;> first | trivial | omega) | assumption)) only [asOwn, asOwnL, runB, evSs, evS, evE, evEs, evB, evIt, isV, isNo, bind_ok, bind_ex, guard_t, env0, mk_lst, mk_dct, mk_tup, mk_frz, mk_int, mk_bl, mk_str, mk_non, el_lst, el_dct, el_tup, el_frz, el_int, el_bl, el_str, el_non, new_own, new_top, new_pl, io_own, io_top, io_pl, asB_bl, asI_int, ent_top, ent_pl, fr_own, fr_top, fr_pl, pu_int, pu_bl, pu_str, pu_non, pu_tup, pu_lst, pu_nil, pu_cons, pe_lst', no_nil, no_cons, al_nil, al_cons, od_rt, od_nx, ofO_some, d_add, d_sub, d_mul, d_div, d_mod, d_cat, d_catT, c_eqI, c_neI, c_lt, c_le, c_gt, c_ge, List.map_cons, List.map_nil, List.length_cons, List.length_nil, List.getElem?_cons_zero, List.getElem?_cons_succ, List.set_cons_zero, List.set_cons_succ, List.cons_append, List.nil_append, List.append_nil, List.replicate, Nat.reduceAdd, Nat.reduceSub, Bool.true_and, Bool.and_true, Bool.false_and, Bool.and_false, Bool.true_or, Bool.or_true, Bool.false_or, Bool.or_false, Bool.not_true, Bool.not_false, if_true, if_false, Bool.false_eq_true, reduceIte, ixw1]; exact rfl))
    refine seq_last ?_
    rw [for_sq (kd := .pl false) (x := sD sn) (xs := sn.map pD) (by simp (disch := (first | trivial | omega | (simp only [true_and, and_true, lim, List.length_cons, List.length_nil, List.length_map, List.length_append] <;> first | trivial | omega) | assumption)) only [asOwn, asOwnL, runB, evSs, evS, evE, evEs, evB, evIt, isV, isNo, bind_ok, bind_ex, guard_t, env0, mk_lst, mk_dct, mk_tup, mk_frz, mk_int, mk_bl, mk_str, mk_non, el_lst, el_dct, el_tup, el_frz, el_int, el_bl, el_str, el_non, new_own, new_top, new_pl, io_own, io_top, io_pl, asB_bl, asI_int, ent_top, ent_pl, fr_own, fr_top, fr_pl, pu_int, pu_bl, pu_str, pu_non, pu_tup, pu_lst, pu_nil, pu_cons, pe_lst', no_nil, no_cons, al_nil, al_cons, od_rt, od_nx, ofO_some, d_add, d_sub, d_mul, d_div, d_mod, d_cat, d_catT, c_eqI, c_neI, c_lt, c_le, c_gt, c_ge, List.map_cons, List.map_nil, List.length_cons, List.length_nil, List.getElem?_cons_zero, List.getElem?_cons_succ, List.set_cons_zero, List.set_cons_succ, List.cons_append, List.nil_append, List.append_nil, List.replicate, Nat.reduceAdd, Nat.reduceSub, Bool.true_and, Bool.and_true, Bool.false_and, Bool.and_false, Bool.true_or, Bool.or_true, Bool.false_or, Bool.or_false, Bool.not_true, Bool.not_false, if_true, if_false, Bool.false_eq_true, reduceIte]) rfl rfl]
    exact Classical.choose_spec (key sn (w.inp - 1) none h)
  exact run_nx hb
def setF (ia : Nat) : Fn := ⟨2, 4, (.cons (.iff (.nt (.bl .isi (.cons (.v 1) (.cons (.ty "tuple") .nil)))) (.cons (.rai "BadSet") .nil) .nil) (.cons (.set 2 false (.neg (.ki 1))) (.cons (.forr [3] (.sq (.v 1)) (.cons (.iff (.nt (.call ia (.cons (.v 3) (.cons (.bin .Add (.v 2) (.ki 1)) (.cons (.bin .Sub (.bl .len (.cons (.ix (.v 0) (.ki 2)) .nil)) (.ki 1)) .nil))))) (.cons (.rai "BadSet") .nil) .nil) (.cons (.set 2 false (.v 3)) .nil))) (.cons (.ret (.kb true)) .nil))))⟩
theorem run_set (S : Sig) (ia : Nat) (hS : ∀ i lo hi : Int, S.call ia [.int i, .int lo, .int hi] = .ok (.bl (decide (lo ≤ i) && decide (i ≤ hi)))) {w : Wk} {br : List Int} (h : SetFrom w.parts.length (-1) br) : runB S (setF ia) [w.D, bD br] = .ok (.bl true) := by
  have key : ∀ (r : List Int) (a : Int) (s3 : Option (Tg × D)), SetFrom w.parts.length a r → ∃ s2 s3', loopM (fun ρ x => (bindT (Kd.pl false).new x ρ [3]).bind fun ρ' => evSs S (.cons (.iff (.nt (.call ia (.cons (.v 3) (.cons (.bin .Add (.v 2) (.ki 1)) (.cons (.bin .Sub (.bl .len (.cons (.ix (.v 0) (.ki 2)) .nil)) (.ki 1)) .nil))))) (.cons (.rai "BadSet") .nil) .nil) (.cons (.set 2 false (.v 3)) .nil)) ρ') (r.map D.int)
      [some (.old, w.D), some (.old, bD br), some (.new, .int a), s3] = .ok (.nx [some (.old, w.D), some (.old, bD br), s2, s3']) := by
    intro r
    induction r with
    | nil => intro a s3 _; exact ⟨_, _, rfl⟩
    | cons p r ih =>
      intro a s3 hr
      obtain ⟨⟨g1, g2⟩, g⟩ := hr
      obtain ⟨s2, s3', e⟩ := ih p (some (.new, .int p)) g
      refine ⟨s2, s3', ?_⟩
      have d1 : decide (a + 1 ≤ p) = true := decide_eq_true (by omega)
      have d2 : decide (p ≤ (w.parts.length : Int) - 1) = true := decide_eq_true (by omega)
      have e1 : evSs S (.cons (.iff (.nt (.call ia (.cons (.v 3) (.cons (.bin .Add (.v 2) (.ki 1)) (.cons (.bin .Sub (.bl .len (.cons (.ix (.v 0) (.ki 2)) .nil)) (.ki 1)) .nil))))) (.cons (.rai "BadSet") .nil) .nil) (.cons (.set 2 false (.v 3)) .nil)) [some (.old, w.D), some (.old, bD br), some (.new, .int a), some (.new, .int p)] = .ok (.nx [some (.old, w.D), some (.old, bD br), some (.new, .int p), some (.new, .int p)]) := by
        apply seq_step
        · refine if_f (k := .pl true) ?_ seq_nil
          simp (disch := (first | trivial | omega | (simp only [true_and, and_true, lim, List.length_cons, List.length_nil, List.length_map, List.length_append] <;> first | trivial | omega) | assumption)) only [asOwn, asOwnL, runB, evSs, evS, evE, evEs, evB, evIt, isV, isNo, bind_ok, bind_ex, guard_t, env0, mk_lst, mk_dct, mk_tup, mk_frz, mk_int, mk_bl, mk_str, mk_non, el_lst, el_dct, el_tup, el_frz, el_int, el_bl, el_str, el_non, new_own, new_top, new_pl, io_own, io_top, io_pl, asB_bl, asI_int, ent_top, ent_pl, fr_own, fr_top, fr_pl, pu_int, pu_bl, pu_str, pu_non, pu_tup, pu_lst, pu_nil, pu_cons, pe_lst', no_nil, no_cons, al_nil, al_cons, od_rt, od_nx, ofO_some, d_add, d_sub, d_mul, d_div, d_mod, d_cat, d_catT, c_eqI, c_neI, c_lt, c_le, c_gt, c_ge, List.map_cons, List.map_nil, List.length_cons, List.length_nil, List.getElem?_cons_zero, List.getElem?_cons_succ, List.set_cons_zero, List.set_cons_succ, List.cons_append, List.nil_append, List.append_nil, List.replicate, Nat.reduceAdd, Nat.reduceSub, Bool.true_and, Bool.and_true, Bool.false_and, Bool.and_false, Bool.true_or, Bool.or_true, Bool.false_or, Bool.or_false, Bool.not_true, Bool.not_false, if_true, if_false, Bool.false_eq_true, reduceIte, ixw2, len_lst, List.length_map, hS, d1, d2]
        refine seq_last ?_
        simp (disch := (first | trivial | omega | (simp only [true_and, and_true, lim, List.length_cons, List.length_nil, List.length_map, List.length_append] <;> first | trivial | omega) | assumption)) only [asOwn, asOwnL, runB, evSs, evS, evE, evEs, evB, evIt, isV, isNo, bind_ok, bind_ex, guard_t, env0, mk_lst, mk_dct, mk_tup, mk_frz, mk_int, mk_bl, mk_str, mk_non, el_lst, el_dct, el_tup, el_frz, el_int, el_bl, el_str, el_non, new_own, new_top, new_pl, io_own, io_top, io_pl, asB_bl, asI_int, ent_top, ent_pl, fr_own, fr_top, fr_pl, pu_int, pu_bl, pu_str, pu_non, pu_tup, pu_lst, pu_nil, pu_cons, pe_lst', no_nil, no_cons, al_nil, al_cons, od_rt, od_nx, ofO_some, d_add, d_sub, d_mul, d_div, d_mod, d_cat, d_catT, c_eqI, c_neI, c_lt, c_le, c_gt, c_ge, List.map_cons, List.map_nil, List.length_cons, List.length_nil, List.getElem?_cons_zero, List.getElem?_cons_succ, List.set_cons_zero, List.set_cons_succ, List.cons_append, List.nil_append, List.append_nil, List.replicate, Nat.reduceAdd, Nat.reduceSub, Bool.true_and, Bool.and_true, Bool.false_and, Bool.and_false, Bool.true_or, Bool.or_true, Bool.false_or, Bool.or_false, Bool.not_true, Bool.not_false, if_true, if_false, Bool.false_eq_true, reduceIte]
      rw [List.map_cons]
      show M.bind (M.bind (bindT false (.int p) _ [3]) _) _ = _
      rw [bindT_1, bind_ok, setE_int]
      have e1' : evSs S (.cons (.iff (.nt (.call ia (.cons (.v 3) (.cons (.bin .Add (.v 2) (.ki 1)) (.cons (.bin .Sub (.bl .len (.cons (.ix (.v 0) (.ki 2)) .nil)) (.ki 1)) .nil))))) (.cons (.rai "BadSet") .nil) .nil) (.cons (.set 2 false (.v 3)) .nil)) ([some (.old, w.D), some (.old, bD br), some (.new, .int a), s3].set 3 (some (.new, .int p))) = _ := e1
      rw [e1']
      exact e
  obtain ⟨s2, s3', e⟩ := key br (-1) none h
  unfold setF
  refine run_rt ?_
  apply seq_step
  · refine if_f (k := .pl true) ?_ seq_nil
    have := isi_tt (br.map D.int)
    unfold bD
    simp (disch := (first | trivial | omega | (simp only [true_and, and_true, lim, List.length_cons, List.length_nil, List.length_map, List.length_append] <;> first | trivial | omega) | assumption)) only [asOwn, asOwnL, runB, evSs, evS, evE, evEs, evB, evIt, isV, isNo, bind_ok, bind_ex, guard_t, env0, mk_lst, mk_dct, mk_tup, mk_frz, mk_int, mk_bl, mk_str, mk_non, el_lst, el_dct, el_tup, el_frz, el_int, el_bl, el_str, el_non, new_own, new_top, new_pl, io_own, io_top, io_pl, asB_bl, asI_int, ent_top, ent_pl, fr_own, fr_top, fr_pl, pu_int, pu_bl, pu_str, pu_non, pu_tup, pu_lst, pu_nil, pu_cons, pe_lst', no_nil, no_cons, al_nil, al_cons, od_rt, od_nx, ofO_some, d_add, d_sub, d_mul, d_div, d_mod, d_cat, d_catT, c_eqI, c_neI, c_lt, c_le, c_gt, c_ge, List.map_cons, List.map_nil, List.length_cons, List.length_nil, List.getElem?_cons_zero, List.getElem?_cons_succ, List.set_cons_zero, List.set_cons_succ, List.cons_append, List.nil_append, List.append_nil, List.replicate, Nat.reduceAdd, Nat.reduceSub, Bool.true_and, Bool.and_true, Bool.false_and, Bool.and_false, Bool.true_or, Bool.or_true, Bool.false_or, Bool.or_false, Bool.not_true, Bool.not_false, if_true, if_false, Bool.false_eq_true, reduceIte, this]
  (apply seq_step; focus (simp (disch := (first | trivial | omega | (simp only [true_and, and_true, lim, List.length_cons, List.length_nil, List.length_map, List.length_append] <;> first | trivial | omega) | assumption)) only [asOwn, asOwnL, runB, evSs, evS, evE, evEs, evB, evIt, isV, isNo, bind_ok, bind_ex, guard_t, env0, mk_lst, mk_dct, mk_tup, mk_frz, mk_int, mk_bl, mk_str, mk_non, el_lst, el_dct, el_tup, el_frz, el_int, el_bl, el_str, el_non, new_own, new_top, new_pl, io_own, io_top, io_pl, asB_bl, asI_int, ent_top, ent_pl, fr_own, fr_top, fr_pl, pu_int, pu_bl, pu_str, pu_non, pu_tup, pu_lst, pu_nil, pu_cons, pe_lst', no_nil, no_cons, al_nil, al_cons, od_rt, od_nx, ofO_some, d_add, d_sub, d_mul, d_div, d_mod, d_cat, d_catT, c_eqI, c_neI, c_lt, c_le, c_gt, c_ge, List.map_cons, List.map_nil, List.length_cons, List.length_nil, List.getElem?_cons_zero, List.getElem?_cons_succ, List.set_cons_zero, List.set_cons_succ, List.cons_append, List.nil_append, List.append_nil, List.replicate, Nat.reduceAdd, Nat.reduceSub, Bool.true_and, Bool.and_true, Bool.false_and, Bool.and_false, Bool.true_or, Bool.or_true, Bool.false_or, Bool.or_false, Bool.not_true, Bool.not_false, if_true, if_false, Bool.false_eq_true, reduceIte]; exact rfl))
  apply seq_step
  · rw [for_sq (kd := .pl false) (x := bD br) (xs := br.map D.int) (by simp (disch := (first | trivial | omega | (simp only [true_and, and_true, lim, List.length_cons, List.length_nil, List.length_map, List.length_append] <;> first | trivial | omega) | assumption)) only [asOwn, asOwnL, runB, evSs, evS, evE, evEs, evB, evIt, isV, isNo, bind_ok, bind_ex, guard_t, env0, mk_lst, mk_dct, mk_tup, mk_frz, mk_int, mk_bl, mk_str, mk_non, el_lst, el_dct, el_tup, el_frz, el_int, el_bl, el_str, el_non, new_own, new_top, new_pl, io_own, io_top, io_pl, asB_bl, asI_int, ent_top, ent_pl, fr_own, fr_top, fr_pl, pu_int, pu_bl, pu_str, pu_non, pu_tup, pu_lst, pu_nil, pu_cons, pe_lst', no_nil, no_cons, al_nil, al_cons, od_rt, od_nx, ofO_some, d_add, d_sub, d_mul, d_div, d_mod, d_cat, d_catT, c_eqI, c_neI, c_lt, c_le, c_gt, c_ge, List.map_cons, List.map_nil, List.length_cons, List.length_nil, List.getElem?_cons_zero, List.getElem?_cons_succ, List.set_cons_zero, List.set_cons_succ, List.cons_append, List.nil_append, List.append_nil, List.replicate, Nat.reduceAdd, Nat.reduceSub, Bool.true_and, Bool.and_true, Bool.false_and, Bool.and_false, Bool.true_or, Bool.or_true, Bool.false_or, Bool.or_false, Bool.not_true, Bool.not_false, if_true, if_false, Bool.false_eq_true, reduceIte]) rfl rfl]
    exact e
  apply seq_rt
  simp (disch := (first | trivial | omega | (simp only [true_and, and_true, lim, List.length_cons, List.length_nil, List.length_map, List.length_append] <;> first | trivial | omega) | assumption)) only [asOwn, asOwnL, runB, evSs, evS, evE, evEs, evB, evIt, isV, isNo, bind_ok, bind_ex, guard_t, env0, mk_lst, mk_dct, mk_tup, mk_frz, mk_int, mk_bl, mk_str, mk_non, el_lst, el_dct, el_tup, el_frz, el_int, el_bl, el_str, el_non, new_own, new_top, new_pl, io_own, io_top, io_pl, asB_bl, asI_int, ent_top, ent_pl, fr_own, fr_top, fr_pl, pu_int, pu_bl, pu_str, pu_non, pu_tup, pu_lst, pu_nil, pu_cons, pe_lst', no_nil, no_cons, al_nil, al_cons, od_rt, od_nx, ofO_some, d_add, d_sub, d_mul, d_div, d_mod, d_cat, d_catT, c_eqI, c_neI, c_lt, c_le, c_gt, c_ge, List.map_cons, List.map_nil, List.length_cons, List.length_nil, List.getElem?_cons_zero, List.getElem?_cons_succ, List.set_cons_zero, List.set_cons_succ, List.cons_append, List.nil_append, List.append_nil, List.replicate, Nat.reduceAdd, Nat.reduceSub, Bool.true_and, Bool.and_true, Bool.false_and, Bool.and_false, Bool.true_or, Bool.or_true, Bool.false_or, Bool.or_false, Bool.not_true, Bool.not_false, if_true, if_false, Bool.false_eq_true, reduceIte]
def lookF (nd se : Nat) : Fn := ⟨2, 2, (.cons (.iff (.bop .Or (.cons (.nt (.bl .isi (.cons (.v 1) (.cons (.ty "tuple") .nil)))) (.cons (.cmp .NotEq (.bl .len (.cons (.v 1) .nil)) (.ki 2)) .nil))) (.cons (.rai "BadLook") .nil) .nil) (.cons (.tryT (.cons (.exp (.call nd (.cons (.v 0) (.cons (.ix (.v 1) (.ki 0)) .nil)))) .nil)) (.cons (.exp (.call se (.cons (.v 0) (.cons (.ix (.v 1) (.ki 1)) .nil)))) (.cons (.ret (.kb true)) .nil))))⟩
/-- a look -/
def lD (gs : List Int) (sn : List (Int × Int)) : D := .tup [.tup (gs.map D.int), sD sn]
theorem ixl0 (gs : List Int) (sn : List (Int × Int)) : dIx (lD gs sn) (.int 0) = .ok (.tup (gs.map D.int)) := rfl
theorem ixl1 (gs : List Int) (sn : List (Int × Int)) : dIx (lD gs sn) (.int 1) = .ok (sD sn) := rfl
theorem el_s (n : Bool) (sn : List (Int × Int)) : elR n (sD sn) = (.pl n, sD sn) := rfl
theorem isi_l (gs : List Int) (sn : List (Int × Int)) : dBlt .isi [lD gs sn, .opq (.ty "tuple")] = .ok (.bl true) := isi_tt _
theorem len_l (gs : List Int) (sn : List (Int × Int)) : dBlt .len [lD gs sn] = .ok (.int 2) := rfl
theorem run_look (S : Sig) (nd se : Nat) {w : Wk} {gs : List Int} {sn : List (Int × Int)} (h1 : S.call nd [w.D, .tup (gs.map D.int)] = .ok (.bl true)) (h2 : S.call se [w.D, sD sn] = .ok .non) : runB S (lookF nd se) [w.D, lD gs sn] = .ok (.bl true) := by
  unfold lookF
  refine run_rt ?_
  apply seq_step
  · refine if_f (k := .pl true) ?_ seq_nil
    simp (disch := (first | trivial | omega | (simp only [true_and, and_true, lim, List.length_cons, List.length_nil, List.length_map, List.length_append] <;> first | trivial | omega) | assumption)) only [asOwn, asOwnL, runB, evSs, evS, evE, evEs, evB, evIt, isV, isNo, bind_ok, bind_ex, guard_t, env0, mk_lst, mk_dct, mk_tup, mk_frz, mk_int, mk_bl, mk_str, mk_non, el_lst, el_dct, el_tup, el_frz, el_int, el_bl, el_str, el_non, new_own, new_top, new_pl, io_own, io_top, io_pl, asB_bl, asI_int, ent_top, ent_pl, fr_own, fr_top, fr_pl, pu_int, pu_bl, pu_str, pu_non, pu_tup, pu_lst, pu_nil, pu_cons, pe_lst', no_nil, no_cons, al_nil, al_cons, od_rt, od_nx, ofO_some, d_add, d_sub, d_mul, d_div, d_mod, d_cat, d_catT, c_eqI, c_neI, c_lt, c_le, c_gt, c_ge, List.map_cons, List.map_nil, List.length_cons, List.length_nil, List.getElem?_cons_zero, List.getElem?_cons_succ, List.set_cons_zero, List.set_cons_succ, List.cons_append, List.nil_append, List.append_nil, List.replicate, Nat.reduceAdd, Nat.reduceSub, Bool.true_and, Bool.and_true, Bool.false_and, Bool.and_false, Bool.true_or, Bool.or_true, Bool.false_or, Bool.or_false, Bool.not_true, Bool.not_false, if_true, if_false, Bool.false_eq_true, reduceIte, isi_l, len_l, eq_self, decide_true]
  apply seq_step
  · rw [evS, seq_last (o := .ok (.nx [some (.old, w.D), some (.old, lD gs sn)])) (by simp (disch := (first | trivial | omega | (simp only [true_and, and_true, lim, List.length_cons, List.length_nil, List.length_map, List.length_append] <;> first | trivial | omega) | assumption)) only [asOwn, asOwnL, runB, evSs, evS, evE, evEs, evB, evIt, isV, isNo, bind_ok, bind_ex, guard_t, env0, mk_lst, mk_dct, mk_tup, mk_frz, mk_int, mk_bl, mk_str, mk_non, el_lst, el_dct, el_tup, el_frz, el_int, el_bl, el_str, el_non, new_own, new_top, new_pl, io_own, io_top, io_pl, asB_bl, asI_int, ent_top, ent_pl, fr_own, fr_top, fr_pl, pu_int, pu_bl, pu_str, pu_non, pu_tup, pu_lst, pu_nil, pu_cons, pe_lst', no_nil, no_cons, al_nil, al_cons, od_rt, od_nx, ofO_some, d_add, d_sub, d_mul, d_div, d_mod, d_cat, d_catT, c_eqI, c_neI, c_lt, c_le, c_gt, c_ge, List.map_cons, List.map_nil, List.length_cons, List.length_nil, List.getElem?_cons_zero, List.getElem?_cons_succ, List.set_cons_zero, List.set_cons_succ, List.cons_append, List.nil_append, List.append_nil, List.replicate, Nat.reduceAdd, Nat.reduceSub, Bool.true_and, Bool.and_true, Bool.false_and, Bool.and_false, Bool.true_or, Bool.or_true, Bool.false_or, Bool.or_false, Bool.not_true, Bool.not_false, if_true, if_false, Bool.false_eq_true, reduceIte, ixl0, h1])]
    exact rfl
  (apply seq_step; focus (simp (disch := (first | trivial | omega | (simp only [true_and, and_true, lim, List.length_cons, List.length_nil, List.length_map, List.length_append] <;> first | trivial | omega) | assumption)) only [asOwn, asOwnL, runB, evSs, evS, evE, evEs, evB, evIt, isV, isNo, bind_ok, bind_ex, guard_t, env0, mk_lst, mk_dct, mk_tup, mk_frz, mk_int, mk_bl, mk_str, mk_non, el_lst, el_dct, el_tup, el_frz, el_int, el_bl, el_str, el_non, new_own, new_top, new_pl, io_own, io_top, io_pl, asB_bl, asI_int, ent_top, ent_pl, fr_own, fr_top, fr_pl, pu_int, pu_bl, pu_str, pu_non, pu_tup, pu_lst, pu_nil, pu_cons, pe_lst', no_nil, no_cons, al_nil, al_cons, od_rt, od_nx, ofO_some, d_add, d_sub, d_mul, d_div, d_mod, d_cat, d_catT, c_eqI, c_neI, c_lt, c_le, c_gt, c_ge, List.map_cons, List.map_nil, List.length_cons, List.length_nil, List.getElem?_cons_zero, List.getElem?_cons_succ, List.set_cons_zero, List.set_cons_succ, List.cons_append, List.nil_append, List.append_nil, List.replicate, Nat.reduceAdd, Nat.reduceSub, Bool.true_and, Bool.and_true, Bool.false_and, Bool.and_false, Bool.true_or, Bool.or_true, Bool.false_or, Bool.or_false, Bool.not_true, Bool.not_false, if_true, if_false, Bool.false_eq_true, reduceIte, ixl1, el_s, h2]; exact rfl))
  apply seq_rt
  simp (disch := (first | trivial | omega | (simp only [true_and, and_true, lim, List.length_cons, List.length_nil, List.length_map, List.length_append] <;> first | trivial | omega) | assumption)) only [asOwn, asOwnL, runB, evSs, evS, evE, evEs, evB, evIt, isV, isNo, bind_ok, bind_ex, guard_t, env0, mk_lst, mk_dct, mk_tup, mk_frz, mk_int, mk_bl, mk_str, mk_non, el_lst, el_dct, el_tup, el_frz, el_int, el_bl, el_str, el_non, new_own, new_top, new_pl, io_own, io_top, io_pl, asB_bl, asI_int, ent_top, ent_pl, fr_own, fr_top, fr_pl, pu_int, pu_bl, pu_str, pu_non, pu_tup, pu_lst, pu_nil, pu_cons, pe_lst', no_nil, no_cons, al_nil, al_cons, od_rt, od_nx, ofO_some, d_add, d_sub, d_mul, d_div, d_mod, d_cat, d_catT, c_eqI, c_neI, c_lt, c_le, c_gt, c_ge, List.map_cons, List.map_nil, List.length_cons, List.length_nil, List.getElem?_cons_zero, List.getElem?_cons_succ, List.set_cons_zero, List.set_cons_succ, List.cons_append, List.nil_append, List.append_nil, List.replicate, Nat.reduceAdd, Nat.reduceSub, Bool.true_and, Bool.and_true, Bool.false_and, Bool.and_false, Bool.true_or, Bool.or_true, Bool.false_or, Bool.or_false, Bool.not_true, Bool.not_false, if_true, if_false, Bool.false_eq_true, reduceIte]
end PyV
namespace PyV
open PySem L2
/-! ### rooms -/
theorem loop_find {f : Env → D → M Out} (P : Env → Prop) (g : D → Option D) : ∀ (xs : List D) (ρ : Env), P ρ → (∀ x ∈ xs, ∀ ρ, P ρ → (∀ d, g x = some d → f ρ x = .ok (.rt d)) ∧ (g x = none → ∃ ρ', f ρ x = .ok (.nx ρ') ∧ P ρ')) →
    (∀ d, xs.findSome? g = some d → loopM f xs ρ = .ok (.rt d)) ∧ (xs.findSome? g = none → ∃ ρ', loopM f xs ρ = .ok (.nx ρ') ∧ P ρ')
  | [], ρ, h0, _ => ⟨fun d h => (by cases h), fun _ => ⟨ρ, rfl, h0⟩⟩
  | x :: xs, ρ, h0, h => by
    obtain ⟨a, b⟩ := h x List.mem_cons_self ρ h0
    rw [List.findSome?_cons]
    cases e : g x with
    | some d =>
      refine ⟨fun d' h' => ?_, fun h' => (by cases h')⟩
      cases h'
      show (f ρ x).bind _ = _
      rw [a d e]
      rfl
    | none =>
      obtain ⟨ρ1, e1, p1⟩ := b e
      obtain ⟨c, d⟩ := loop_find P g xs ρ1 p1 fun y hy => h y (List.mem_cons_of_mem _ hy)
      have el : loopM f (x :: xs) ρ = loopM f xs ρ1 := by
        show (f ρ x).bind _ = _
        rw [e1]
        rfl
      rw [el]
      exact ⟨c, d⟩
def rangeI (r : Int) : List Int := (List.range r.toNat).map fun i : Nat => (i : Int)
theorem rngD_I (r : Int) : rngD 0 r = (rangeI r).map D.int := by
  unfold rngD rangeI
  rw [List.map_map, Int.sub_zero]
  apply List.map_congr_left
  intro i _
  simp
theorem mem_rangeI {r x : Int} : x ∈ rangeI r ↔ 0 ≤ x ∧ x < r := by
  unfold rangeI
  rw [List.mem_map]
  constructor
  · rintro ⟨i, hi, rfl⟩
    have := List.mem_range.mp hi
    omega
  · rintro ⟨h1, h2⟩
    exact ⟨x.toNat, List.mem_range.mpr (by omega), by omega⟩
theorem in_b (br : List Int) (k : Int) : dCmp .In (.int k) (bD br) = .ok (.bl (decide (k ∈ br))) := by
  show guard' (flatD (.int k) = true ∧ (br.map D.int).all flatD = true) (M.ok (D.bl (if false then !dIn (.int k) (br.map D.int) else dIn (.int k) (br.map D.int)))) = _
  rw [guard_t ⟨rfl, by rw [List.all_map]; exact List.all_eq_true.mpr fun _ _ => rfl⟩]
  have e : dIn (.int k) (br.map D.int) = decide (k ∈ br) := by
    unfold dIn
    rw [List.any_map, Bool.eq_iff_iff, List.any_eq_true, decide_eq_true_iff]
    constructor
    · rintro ⟨x, hx, h⟩
      have : x = k := by simpa [eqV, flatVD] using h
      rw [← this]; exact hx
    · intro h
      exact ⟨k, h, by simp [eqV, flatVD]⟩
  rw [e]
  rfl
def choicesI (ring : Int) (br : List Int) (k : Nat) (p : Pt) (ds : List Int) : List Int := if (k : Int) ∈ br then rangeI ring else [p.val ring ds]
def choicesF (gv : Nat) : Fn := ⟨4, 4, (.cons (.iff (.cmp .In (.v 3) (.v 2)) (.cons (.ret (.lrg (.ki 0) (.ix (.v 0) (.ki 0)))) .nil) .nil) (.cons (.ret (.lst (.cons (.call gv (.cons (.ix (.ix (.v 0) (.ki 2)) (.v 3)) (.cons (.v 1) (.cons (.ix (.v 0) (.ki 0)) .nil)))) .nil))) .nil))⟩
theorem lrg_ev {S : Sig} {ρ : Env} {a b : IE} {j : Int} {k1 k2 : Kd} (h1 : evE S a ρ = .ok (k1, .int 0)) (h2 : evE S b ρ = .ok (k2, .int j)) (h : 0 ≤ j ∧ j ≤ 1000) : evE S (.lrg a b) ρ = .ok (.top true, .lst ((rangeI j).map D.int)) := by
  rw [evE, h1, bind_ok, h2, bind_ok]
  dsimp only
  have g : -(2 ^ 62) ≤ (0 : Int) ∧ (0 : Int) < 2 ^ 62 ∧ -(2 ^ 62) ≤ j ∧ j < 2 ^ 62 ∧ (j - 0).toNat ≤ lim := ⟨by omega, by omega, by omega, by omega, by unfold lim; omega⟩
  rw [guard_t g, rngD_I]
theorem run_choices (S : Sig) (gv : Nat) {w : Wk} (hw : w.ok) (br : List Int) {k : Nat} {p : Pt} (hp : w.parts[k]? = some p) {ds : List Int} (hl : ds.length = w.inp + k)
    (hg : S.call gv [p.D, .lst (ds.map D.int), .int w.ring] = .ok (.int (p.val w.ring ds))) : runB S (choicesF gv) [w.D, .lst (ds.map D.int), bD br, .int k] = .ok (.lst ((choicesI w.ring br k p ds).map D.int)) := by
  have r2 := hw.r2
  have r5 := hw.r5
  unfold choicesF
  refine run_rt ?_
  unfold choicesI
  by_cases hk : (k : Int) ∈ br
  · rw [if_pos hk]
    have e1 := in_b br k
    rw [decide_eq_true hk] at e1
    apply seq_rt
    refine if_t (k := .pl true) ?_ (seq_rt ?_)
    · simp (disch := (first | trivial | omega | (simp only [true_and, and_true, lim, List.length_cons, List.length_nil, List.length_map, List.length_append] <;> first | trivial | omega) | assumption)) only [asOwn, asOwnL, runB, evSs, evS, evE, evEs, evB, evIt, isV, isNo, bind_ok, bind_ex, guard_t, env0, mk_lst, mk_dct, mk_tup, mk_frz, mk_int, mk_bl, mk_str, mk_non, el_lst, el_dct, el_tup, el_frz, el_int, el_bl, el_str, el_non, new_own, new_top, new_pl, io_own, io_top, io_pl, asB_bl, asI_int, ent_top, ent_pl, fr_own, fr_top, fr_pl, pu_int, pu_bl, pu_str, pu_non, pu_tup, pu_lst, pu_nil, pu_cons, pe_lst', no_nil, no_cons, al_nil, al_cons, od_rt, od_nx, ofO_some, d_add, d_sub, d_mul, d_div, d_mod, d_cat, d_catT, c_eqI, c_neI, c_lt, c_le, c_gt, c_ge, List.map_cons, List.map_nil, List.length_cons, List.length_nil, List.getElem?_cons_zero, List.getElem?_cons_succ, List.set_cons_zero, List.set_cons_succ, List.cons_append, List.nil_append, List.append_nil, List.replicate, Nat.reduceAdd, Nat.reduceSub, Bool.true_and, Bool.and_true, Bool.false_and, Bool.and_false, Bool.true_or, Bool.or_true, Bool.false_or, Bool.or_false, Bool.not_true, Bool.not_false, if_true, if_false, Bool.false_eq_true, reduceIte, e1]
    · rw [evS, lrg_ev (k1 := .pl true) (k2 := .pl true) (j := w.ring) (by simp (disch := (first | trivial | omega | (simp only [true_and, and_true, lim, List.length_cons, List.length_nil, List.length_map, List.length_append] <;> first | trivial | omega) | assumption)) only [asOwn, asOwnL, runB, evSs, evS, evE, evEs, evB, evIt, isV, isNo, bind_ok, bind_ex, guard_t, env0, mk_lst, mk_dct, mk_tup, mk_frz, mk_int, mk_bl, mk_str, mk_non, el_lst, el_dct, el_tup, el_frz, el_int, el_bl, el_str, el_non, new_own, new_top, new_pl, io_own, io_top, io_pl, asB_bl, asI_int, ent_top, ent_pl, fr_own, fr_top, fr_pl, pu_int, pu_bl, pu_str, pu_non, pu_tup, pu_lst, pu_nil, pu_cons, pe_lst', no_nil, no_cons, al_nil, al_cons, od_rt, od_nx, ofO_some, d_add, d_sub, d_mul, d_div, d_mod, d_cat, d_catT, c_eqI, c_neI, c_lt, c_le, c_gt, c_ge, List.map_cons, List.map_nil, List.length_cons, List.length_nil, List.getElem?_cons_zero, List.getElem?_cons_succ, List.set_cons_zero, List.set_cons_succ, List.cons_append, List.nil_append, List.append_nil, List.replicate, Nat.reduceAdd, Nat.reduceSub, Bool.true_and, Bool.and_true, Bool.false_and, Bool.and_false, Bool.true_or, Bool.or_true, Bool.false_or, Bool.or_false, Bool.not_true, Bool.not_false, if_true, if_false, Bool.false_eq_true, reduceIte]) (by simp (disch := (first | trivial | omega | (simp only [true_and, and_true, lim, List.length_cons, List.length_nil, List.length_map, List.length_append] <;> first | trivial | omega) | assumption)) only [asOwn, asOwnL, runB, evSs, evS, evE, evEs, evB, evIt, isV, isNo, bind_ok, bind_ex, guard_t, env0, mk_lst, mk_dct, mk_tup, mk_frz, mk_int, mk_bl, mk_str, mk_non, el_lst, el_dct, el_tup, el_frz, el_int, el_bl, el_str, el_non, new_own, new_top, new_pl, io_own, io_top, io_pl, asB_bl, asI_int, ent_top, ent_pl, fr_own, fr_top, fr_pl, pu_int, pu_bl, pu_str, pu_non, pu_tup, pu_lst, pu_nil, pu_cons, pe_lst', no_nil, no_cons, al_nil, al_cons, od_rt, od_nx, ofO_some, d_add, d_sub, d_mul, d_div, d_mod, d_cat, d_catT, c_eqI, c_neI, c_lt, c_le, c_gt, c_ge, List.map_cons, List.map_nil, List.length_cons, List.length_nil, List.getElem?_cons_zero, List.getElem?_cons_succ, List.set_cons_zero, List.set_cons_succ, List.cons_append, List.nil_append, List.append_nil, List.replicate, Nat.reduceAdd, Nat.reduceSub, Bool.true_and, Bool.and_true, Bool.false_and, Bool.and_false, Bool.true_or, Bool.or_true, Bool.false_or, Bool.or_false, Bool.not_true, Bool.not_false, if_true, if_false, Bool.false_eq_true, reduceIte, ixw0]) (by omega)]
      simp (disch := (first | trivial | omega | (simp only [true_and, and_true, lim, List.length_cons, List.length_nil, List.length_map, List.length_append] <;> first | trivial | omega) | assumption)) only [asOwn, asOwnL, runB, evSs, evS, evE, evEs, evB, evIt, isV, isNo, bind_ok, bind_ex, guard_t, env0, mk_lst, mk_dct, mk_tup, mk_frz, mk_int, mk_bl, mk_str, mk_non, el_lst, el_dct, el_tup, el_frz, el_int, el_bl, el_str, el_non, new_own, new_top, new_pl, io_own, io_top, io_pl, asB_bl, asI_int, ent_top, ent_pl, fr_own, fr_top, fr_pl, pu_int, pu_bl, pu_str, pu_non, pu_tup, pu_lst, pu_nil, pu_cons, pe_lst', no_nil, no_cons, al_nil, al_cons, od_rt, od_nx, ofO_some, d_add, d_sub, d_mul, d_div, d_mod, d_cat, d_catT, c_eqI, c_neI, c_lt, c_le, c_gt, c_ge, List.map_cons, List.map_nil, List.length_cons, List.length_nil, List.getElem?_cons_zero, List.getElem?_cons_succ, List.set_cons_zero, List.set_cons_succ, List.cons_append, List.nil_append, List.append_nil, List.replicate, Nat.reduceAdd, Nat.reduceSub, Bool.true_and, Bool.and_true, Bool.false_and, Bool.and_false, Bool.true_or, Bool.or_true, Bool.false_or, Bool.or_false, Bool.not_true, Bool.not_false, if_true, if_false, Bool.false_eq_true, reduceIte]
  · rw [if_neg hk]
    have e1 := in_b br k
    rw [decide_eq_false hk] at e1
    have e2 := ix_pts hp
    apply seq_step
    · refine if_f (k := .pl true) ?_ seq_nil
      simp (disch := (first | trivial | omega | (simp only [true_and, and_true, lim, List.length_cons, List.length_nil, List.length_map, List.length_append] <;> first | trivial | omega) | assumption)) only [asOwn, asOwnL, runB, evSs, evS, evE, evEs, evB, evIt, isV, isNo, bind_ok, bind_ex, guard_t, env0, mk_lst, mk_dct, mk_tup, mk_frz, mk_int, mk_bl, mk_str, mk_non, el_lst, el_dct, el_tup, el_frz, el_int, el_bl, el_str, el_non, new_own, new_top, new_pl, io_own, io_top, io_pl, asB_bl, asI_int, ent_top, ent_pl, fr_own, fr_top, fr_pl, pu_int, pu_bl, pu_str, pu_non, pu_tup, pu_lst, pu_nil, pu_cons, pe_lst', no_nil, no_cons, al_nil, al_cons, od_rt, od_nx, ofO_some, d_add, d_sub, d_mul, d_div, d_mod, d_cat, d_catT, c_eqI, c_neI, c_lt, c_le, c_gt, c_ge, List.map_cons, List.map_nil, List.length_cons, List.length_nil, List.getElem?_cons_zero, List.getElem?_cons_succ, List.set_cons_zero, List.set_cons_succ, List.cons_append, List.nil_append, List.append_nil, List.replicate, Nat.reduceAdd, Nat.reduceSub, Bool.true_and, Bool.and_true, Bool.false_and, Bool.and_false, Bool.true_or, Bool.or_true, Bool.false_or, Bool.or_false, Bool.not_true, Bool.not_false, if_true, if_false, Bool.false_eq_true, reduceIte, e1]
    apply seq_rt
    simp (disch := (first | trivial | omega | (simp only [true_and, and_true, lim, List.length_cons, List.length_nil, List.length_map, List.length_append] <;> first | trivial | omega) | assumption)) only [asOwn, asOwnL, runB, evSs, evS, evE, evEs, evB, evIt, isV, isNo, bind_ok, bind_ex, guard_t, env0, mk_lst, mk_dct, mk_tup, mk_frz, mk_int, mk_bl, mk_str, mk_non, el_lst, el_dct, el_tup, el_frz, el_int, el_bl, el_str, el_non, new_own, new_top, new_pl, io_own, io_top, io_pl, asB_bl, asI_int, ent_top, ent_pl, fr_own, fr_top, fr_pl, pu_int, pu_bl, pu_str, pu_non, pu_tup, pu_lst, pu_nil, pu_cons, pe_lst', no_nil, no_cons, al_nil, al_cons, od_rt, od_nx, ofO_some, d_add, d_sub, d_mul, d_div, d_mod, d_cat, d_catT, c_eqI, c_neI, c_lt, c_le, c_gt, c_ge, List.map_cons, List.map_nil, List.length_cons, List.length_nil, List.getElem?_cons_zero, List.getElem?_cons_succ, List.set_cons_zero, List.set_cons_succ, List.cons_append, List.nil_append, List.append_nil, List.replicate, Nat.reduceAdd, Nat.reduceSub, Bool.true_and, Bool.and_true, Bool.false_and, Bool.and_false, Bool.true_or, Bool.or_true, Bool.false_or, Bool.or_false, Bool.not_true, Bool.not_false, if_true, if_false, Bool.false_eq_true, reduceIte, ixw2, e2, el_pt, ixw0, hg]
def fillI (w : Wk) (t : List (Int × Int)) (br : List Int) : Nat → List Pt → List Int → Option (List Int)
  | _, [], ds => some ds
  | k, p :: ps, ds => (choicesI w.ring br k p ds).findSome? fun d => if (lookI t ((w.inp + k : Nat) : Int)).getD d = d then fillI w t br (k + 1) ps (ds ++ [d]) else none
def optD : Option (List Int) → D
  | some r => .tup (r.map D.int)
  | none => .non
def filledF (ch fl : Nat) : Fn := ⟨4, 8, (.cons (.set 4 false (.bl .len (.cons (.v 1) .nil))) (.cons (.set 5 false (.bin .Sub (.v 4) (.ix (.v 0) (.ki 1)))) (.cons (.iff (.cmp .Eq (.v 5) (.bl .len (.cons (.ix (.v 0) (.ki 2)) .nil))) (.cons (.ret (.bl .tuple (.cons (.v 1) .nil))) .nil) .nil) (.cons (.forr [6] (.sq (.call ch (.cons (.v 0) (.cons (.v 1) (.cons (.v 3) (.cons (.v 5) .nil)))))) (.cons (.iff (.cmp .Eq (.get2 (.v 2) (.v 4) (.v 6)) (.v 6)) (.cons (.set 7 false (.call fl (.cons (.v 0) (.cons (.bin .Add (.v 1) (.lst (.cons (.v 6) .nil))) (.cons (.v 2) (.cons (.v 3) .nil)))))) (.cons (.iff (.cmp .IsNot (.v 7) .kn) (.cons (.ret (.v 7)) .nil) .nil) .nil)) .nil) .nil)) (.cons (.ret .kn) .nil)))))⟩
theorem c_isN_tup (xs : List D) : dCmp .IsNot (.tup xs) .non = .ok (.bl true) := rfl
theorem c_isN_non : dCmp .IsNot .non .non = .ok (.bl false) := rfl
theorem c_is_tup (xs : List D) : dCmp .Is (.tup xs) .non = .ok (.bl false) := rfl
theorem c_is_non : dCmp .Is .non .non = .ok (.bl true) := rfl
theorem run_filled {T : Nat → Option Fn} {G : Str → Option D} {Z : Str → Bool} (ch fl c0 : Nat) (hT : T fl = some (filledF ch fl)) {w : Wk} (hw : w.ok) (t : List (Int × Int)) (br : List Int)
    (hch : ∀ L, c0 ≤ L → ∀ (k : Nat) (p : Pt) (ds : List Int), w.parts[k]? = some p → ds.length = w.inp + k → PyV.run T G Z L ch [w.D, .lst (ds.map D.int), bD br, .int k] = .ok (.lst ((choicesI w.ring br k p ds).map D.int))) :
    ∀ (n k : Nat) (ds : List Int) (L : Nat), k + n = w.parts.length → ds.length = w.inp + k → c0 + n ≤ L → PyV.run T G Z (L + 1) fl [w.D, .lst (ds.map D.int), tD t, bD br] = .ok (optD (fillI w t br k (w.parts.drop k) ds)) := by
  have i6 := hw.i6
  have p10 := hw.p10
  intro n
  induction n with
  | zero =>
    intro k ds L hk hl hL
    have hr : PyV.run T G Z (L + 1) fl [w.D, .lst (ds.map D.int), tD t, bD br] = runB ⟨PyV.run T G Z L, G, Z⟩ (filledF ch fl) [w.D, .lst (ds.map D.int), tD t, bD br] := by
      show (match T fl with
        | some fn => runB ⟨PyV.run T G Z L, G, Z⟩ fn _
        | none => .stuck) = _
      rw [hT]
    rw [hr]
    have hd : w.parts.drop k = [] := List.drop_eq_nil_of_le (by omega)
    rw [hd]
    show _ = M.ok (D.tup (ds.map D.int))
    unfold filledF
    refine run_rt ?_
    (apply seq_step; focus (simp (disch := (first | trivial | omega | (simp only [true_and, and_true, lim, List.length_cons, List.length_nil, List.length_map, List.length_append] <;> first | trivial | omega) | assumption)) only [asOwn, asOwnL, runB, evSs, evS, evE, evEs, evB, evIt, isV, isNo, bind_ok, bind_ex, guard_t, env0, mk_lst, mk_dct, mk_tup, mk_frz, mk_int, mk_bl, mk_str, mk_non, el_lst, el_dct, el_tup, el_frz, el_int, el_bl, el_str, el_non, new_own, new_top, new_pl, io_own, io_top, io_pl, asB_bl, asI_int, ent_top, ent_pl, fr_own, fr_top, fr_pl, pu_int, pu_bl, pu_str, pu_non, pu_tup, pu_lst, pu_nil, pu_cons, pe_lst', no_nil, no_cons, al_nil, al_cons, od_rt, od_nx, ofO_some, d_add, d_sub, d_mul, d_div, d_mod, d_cat, d_catT, c_eqI, c_neI, c_lt, c_le, c_gt, c_ge, List.map_cons, List.map_nil, List.length_cons, List.length_nil, List.getElem?_cons_zero, List.getElem?_cons_succ, List.set_cons_zero, List.set_cons_succ, List.cons_append, List.nil_append, List.append_nil, List.replicate, Nat.reduceAdd, Nat.reduceSub, Bool.true_and, Bool.and_true, Bool.false_and, Bool.and_false, Bool.true_or, Bool.or_true, Bool.false_or, Bool.or_false, Bool.not_true, Bool.not_false, if_true, if_false, Bool.false_eq_true, reduceIte, len_lst, List.length_map]; exact rfl))
    (apply seq_step; focus (simp (disch := (first | trivial | omega | (simp only [true_and, and_true, lim, List.length_cons, List.length_nil, List.length_map, List.length_append] <;> first | trivial | omega) | assumption)) only [asOwn, asOwnL, runB, evSs, evS, evE, evEs, evB, evIt, isV, isNo, bind_ok, bind_ex, guard_t, env0, mk_lst, mk_dct, mk_tup, mk_frz, mk_int, mk_bl, mk_str, mk_non, el_lst, el_dct, el_tup, el_frz, el_int, el_bl, el_str, el_non, new_own, new_top, new_pl, io_own, io_top, io_pl, asB_bl, asI_int, ent_top, ent_pl, fr_own, fr_top, fr_pl, pu_int, pu_bl, pu_str, pu_non, pu_tup, pu_lst, pu_nil, pu_cons, pe_lst', no_nil, no_cons, al_nil, al_cons, od_rt, od_nx, ofO_some, d_add, d_sub, d_mul, d_div, d_mod, d_cat, d_catT, c_eqI, c_neI, c_lt, c_le, c_gt, c_ge, List.map_cons, List.map_nil, List.length_cons, List.length_nil, List.getElem?_cons_zero, List.getElem?_cons_succ, List.set_cons_zero, List.set_cons_succ, List.cons_append, List.nil_append, List.append_nil, List.replicate, Nat.reduceAdd, Nat.reduceSub, Bool.true_and, Bool.and_true, Bool.false_and, Bool.and_false, Bool.true_or, Bool.or_true, Bool.false_or, Bool.or_false, Bool.not_true, Bool.not_false, if_true, if_false, Bool.false_eq_true, reduceIte, ixw1]; exact rfl))
    have e1 : (ds.length : Int) - (w.inp : Int) = w.parts.length := by omega
    apply seq_rt
    refine if_t (k := .pl true) ?_ (seq_rt ?_)
    · simp (disch := (first | trivial | omega | (simp only [true_and, and_true, lim, List.length_cons, List.length_nil, List.length_map, List.length_append] <;> first | trivial | omega) | assumption)) only [asOwn, asOwnL, runB, evSs, evS, evE, evEs, evB, evIt, isV, isNo, bind_ok, bind_ex, guard_t, env0, mk_lst, mk_dct, mk_tup, mk_frz, mk_int, mk_bl, mk_str, mk_non, el_lst, el_dct, el_tup, el_frz, el_int, el_bl, el_str, el_non, new_own, new_top, new_pl, io_own, io_top, io_pl, asB_bl, asI_int, ent_top, ent_pl, fr_own, fr_top, fr_pl, pu_int, pu_bl, pu_str, pu_non, pu_tup, pu_lst, pu_nil, pu_cons, pe_lst', no_nil, no_cons, al_nil, al_cons, od_rt, od_nx, ofO_some, d_add, d_sub, d_mul, d_div, d_mod, d_cat, d_catT, c_eqI, c_neI, c_lt, c_le, c_gt, c_ge, List.map_cons, List.map_nil, List.length_cons, List.length_nil, List.getElem?_cons_zero, List.getElem?_cons_succ, List.set_cons_zero, List.set_cons_succ, List.cons_append, List.nil_append, List.append_nil, List.replicate, Nat.reduceAdd, Nat.reduceSub, Bool.true_and, Bool.and_true, Bool.false_and, Bool.and_false, Bool.true_or, Bool.or_true, Bool.false_or, Bool.or_false, Bool.not_true, Bool.not_false, if_true, if_false, Bool.false_eq_true, reduceIte, ixw2, len_lst, List.length_map, e1, eq_self, decide_true]
    · have hp := pureL_ints ds
      simp (disch := (first | trivial | omega | (simp only [true_and, and_true, lim, List.length_cons, List.length_nil, List.length_map, List.length_append] <;> first | trivial | omega) | assumption)) only [asOwn, asOwnL, runB, evSs, evS, evE, evEs, evB, evIt, isV, isNo, bind_ok, bind_ex, guard_t, env0, mk_lst, mk_dct, mk_tup, mk_frz, mk_int, mk_bl, mk_str, mk_non, el_lst, el_dct, el_tup, el_frz, el_int, el_bl, el_str, el_non, new_own, new_top, new_pl, io_own, io_top, io_pl, asB_bl, asI_int, ent_top, ent_pl, fr_own, fr_top, fr_pl, pu_int, pu_bl, pu_str, pu_non, pu_tup, pu_lst, pu_nil, pu_cons, pe_lst', no_nil, no_cons, al_nil, al_cons, od_rt, od_nx, ofO_some, d_add, d_sub, d_mul, d_div, d_mod, d_cat, d_catT, c_eqI, c_neI, c_lt, c_le, c_gt, c_ge, List.map_cons, List.map_nil, List.length_cons, List.length_nil, List.getElem?_cons_zero, List.getElem?_cons_succ, List.set_cons_zero, List.set_cons_succ, List.cons_append, List.nil_append, List.append_nil, List.replicate, Nat.reduceAdd, Nat.reduceSub, Bool.true_and, Bool.and_true, Bool.false_and, Bool.and_false, Bool.true_or, Bool.or_true, Bool.false_or, Bool.or_false, Bool.not_true, Bool.not_false, if_true, if_false, Bool.false_eq_true, reduceIte, tup_lst, hp]
  | succ n ih =>
    intro k ds L hk hl hL
    have hr : PyV.run T G Z (L + 1) fl [w.D, .lst (ds.map D.int), tD t, bD br] = runB ⟨PyV.run T G Z L, G, Z⟩ (filledF ch fl) [w.D, .lst (ds.map D.int), tD t, bD br] := by
      show (match T fl with
        | some fn => runB ⟨PyV.run T G Z L, G, Z⟩ fn _
        | none => .stuck) = _
      rw [hT]
    rw [hr]
    obtain ⟨L, rfl⟩ : ∃ L', L = L' + 1 := ⟨L - 1, by omega⟩
    have hkl : k < w.parts.length := by omega
    have hp : w.parts[k]? = some w.parts[k] := List.getElem?_eq_getElem hkl
    have hd : w.parts.drop k = w.parts[k] :: w.parts.drop (k + 1) := List.drop_eq_getElem_cons hkl
    generalize w.parts[k] = p at hp hd
    rw [hd]
    have e1 : (ds.length : Int) - (w.inp : Int) = k := by omega
    have e2 : decide ((k : Int) = (w.parts.length : Int)) = false := decide_eq_false (by omega)
    have ec := hch (L + 1) (by omega) k p ds hp hl
    unfold filledF
    refine run_rt ?_
    (apply seq_step; focus (simp (disch := (first | trivial | omega | (simp only [true_and, and_true, lim, List.length_cons, List.length_nil, List.length_map, List.length_append] <;> first | trivial | omega) | assumption)) only [asOwn, asOwnL, runB, evSs, evS, evE, evEs, evB, evIt, isV, isNo, bind_ok, bind_ex, guard_t, env0, mk_lst, mk_dct, mk_tup, mk_frz, mk_int, mk_bl, mk_str, mk_non, el_lst, el_dct, el_tup, el_frz, el_int, el_bl, el_str, el_non, new_own, new_top, new_pl, io_own, io_top, io_pl, asB_bl, asI_int, ent_top, ent_pl, fr_own, fr_top, fr_pl, pu_int, pu_bl, pu_str, pu_non, pu_tup, pu_lst, pu_nil, pu_cons, pe_lst', no_nil, no_cons, al_nil, al_cons, od_rt, od_nx, ofO_some, d_add, d_sub, d_mul, d_div, d_mod, d_cat, d_catT, c_eqI, c_neI, c_lt, c_le, c_gt, c_ge, List.map_cons, List.map_nil, List.length_cons, List.length_nil, List.getElem?_cons_zero, List.getElem?_cons_succ, List.set_cons_zero, List.set_cons_succ, List.cons_append, List.nil_append, List.append_nil, List.replicate, Nat.reduceAdd, Nat.reduceSub, Bool.true_and, Bool.and_true, Bool.false_and, Bool.and_false, Bool.true_or, Bool.or_true, Bool.false_or, Bool.or_false, Bool.not_true, Bool.not_false, if_true, if_false, Bool.false_eq_true, reduceIte, len_lst, List.length_map]; exact rfl))
    (apply seq_step; focus (simp (disch := (first | trivial | omega | (simp only [true_and, and_true, lim, List.length_cons, List.length_nil, List.length_map, List.length_append] <;> first | trivial | omega) | assumption)) only [asOwn, asOwnL, runB, evSs, evS, evE, evEs, evB, evIt, isV, isNo, bind_ok, bind_ex, guard_t, env0, mk_lst, mk_dct, mk_tup, mk_frz, mk_int, mk_bl, mk_str, mk_non, el_lst, el_dct, el_tup, el_frz, el_int, el_bl, el_str, el_non, new_own, new_top, new_pl, io_own, io_top, io_pl, asB_bl, asI_int, ent_top, ent_pl, fr_own, fr_top, fr_pl, pu_int, pu_bl, pu_str, pu_non, pu_tup, pu_lst, pu_nil, pu_cons, pe_lst', no_nil, no_cons, al_nil, al_cons, od_rt, od_nx, ofO_some, d_add, d_sub, d_mul, d_div, d_mod, d_cat, d_catT, c_eqI, c_neI, c_lt, c_le, c_gt, c_ge, List.map_cons, List.map_nil, List.length_cons, List.length_nil, List.getElem?_cons_zero, List.getElem?_cons_succ, List.set_cons_zero, List.set_cons_succ, List.cons_append, List.nil_append, List.append_nil, List.replicate, Nat.reduceAdd, Nat.reduceSub, Bool.true_and, Bool.and_true, Bool.false_and, Bool.and_false, Bool.true_or, Bool.or_true, Bool.false_or, Bool.or_false, Bool.not_true, Bool.not_false, if_true, if_false, Bool.false_eq_true, reduceIte, ixw1]; exact rfl))
    apply seq_step
    · refine if_f (k := .pl true) ?_ seq_nil
      simp (disch := (first | trivial | omega | (simp only [true_and, and_true, lim, List.length_cons, List.length_nil, List.length_map, List.length_append] <;> first | trivial | omega) | assumption)) only [asOwn, asOwnL, runB, evSs, evS, evE, evEs, evB, evIt, isV, isNo, bind_ok, bind_ex, guard_t, env0, mk_lst, mk_dct, mk_tup, mk_frz, mk_int, mk_bl, mk_str, mk_non, el_lst, el_dct, el_tup, el_frz, el_int, el_bl, el_str, el_non, new_own, new_top, new_pl, io_own, io_top, io_pl, asB_bl, asI_int, ent_top, ent_pl, fr_own, fr_top, fr_pl, pu_int, pu_bl, pu_str, pu_non, pu_tup, pu_lst, pu_nil, pu_cons, pe_lst', no_nil, no_cons, al_nil, al_cons, od_rt, od_nx, ofO_some, d_add, d_sub, d_mul, d_div, d_mod, d_cat, d_catT, c_eqI, c_neI, c_lt, c_le, c_gt, c_ge, List.map_cons, List.map_nil, List.length_cons, List.length_nil, List.getElem?_cons_zero, List.getElem?_cons_succ, List.set_cons_zero, List.set_cons_succ, List.cons_append, List.nil_append, List.append_nil, List.replicate, Nat.reduceAdd, Nat.reduceSub, Bool.true_and, Bool.and_true, Bool.false_and, Bool.and_false, Bool.true_or, Bool.or_true, Bool.false_or, Bool.or_false, Bool.not_true, Bool.not_false, if_true, if_false, Bool.false_eq_true, reduceIte, ixw2, len_lst, List.length_map, e1, e2]
    rw [e1]
    have hlen : ds.length + 1 ≤ 1000000 := by omega
    have lf := loop_find (f := fun ρ x => (bindT (Kd.top true).new x ρ [6]).bind fun ρ' => evSs ⟨PyV.run T G Z (L + 1), G, Z⟩ (.cons (.iff (.cmp .Eq (.get2 (.v 2) (.v 4) (.v 6)) (.v 6)) (.cons (.set 7 false (.call fl (.cons (.v 0) (.cons (.bin .Add (.v 1) (.lst (.cons (.v 6) .nil))) (.cons (.v 2) (.cons (.v 3) .nil)))))) (.cons (.iff (.cmp .IsNot (.v 7) .kn) (.cons (.ret (.v 7)) .nil) .nil) .nil)) .nil) .nil) ρ')
      (fun ρ => ∃ s6 s7, ρ = [some (.old, w.D), some (.old, .lst (ds.map D.int)), some (.old, tD t), some (.old, bD br), some (.new, .int ds.length), some (.new, .int k), s6, s7])
      (fun x => match x with
        | .int d => ((if (lookI t ((w.inp + k : Nat) : Int)).getD d = d then fillI w t br (k + 1) (w.parts.drop (k + 1)) (ds ++ [d]) else none).map fun r => D.tup (r.map D.int))
        | _ => none)
      ((choicesI w.ring br k p ds).map D.int) [some (.old, w.D), some (.old, .lst (ds.map D.int)), some (.old, tD t), some (.old, bD br), some (.new, .int ds.length), some (.new, .int k), none, none] ⟨none, none, rfl⟩ (by
      rintro x hx ρ ⟨s6, s7, rfl⟩
      obtain ⟨d, _, rfl⟩ := List.mem_map.mp hx
      have eb : (ds.length : Int) = ((w.inp + k : Nat) : Int) := by omega
      have ef := ih (k + 1) (ds ++ [d]) L (by omega) (by simp; omega) (by omega)
      rw [List.map_append] at ef
      have ef : PyV.run T G Z (L + 1) fl [w.D, .lst (ds.map D.int ++ [.int d]), tD t, bD br] = _ := ef
      show (∀ d', _ → M.bind (bindT true (.int d) _ [6]) _ = _) ∧ (_ → ∃ ρ', M.bind (bindT true (.int d) _ [6]) _ = _ ∧ _)
      rw [bindT_1, bind_ok, setE_int]
      by_cases hq : (lookI t ((w.inp + k : Nat) : Int)).getD d = d
      · simp only [hq, if_true]
        cases hf : fillI w t br (k + 1) (w.parts.drop (k + 1)) (ds ++ [d]) with
        | some r =>
          rw [hf] at ef
          have ef : PyV.run T G Z (L + 1) fl [w.D, .lst (ds.map D.int ++ [.int d]), tD t, bD br] = .ok (.tup (r.map D.int)) := ef
          have hpr := pureL_ints r
          refine ⟨fun d' h' => ?_, fun h' => (by cases h')⟩
          cases h'
          apply seq_rt
          refine if_t (k := .pl true) ?_ ?_
          · simp (disch := (first | trivial | omega | (simp only [true_and, and_true, lim, List.length_cons, List.length_nil, List.length_map, List.length_append] <;> first | trivial | omega) | assumption)) only [asOwn, asOwnL, runB, evSs, evS, evE, evEs, evB, evIt, isV, isNo, bind_ok, bind_ex, guard_t, env0, mk_lst, mk_dct, mk_tup, mk_frz, mk_int, mk_bl, mk_str, mk_non, el_lst, el_dct, el_tup, el_frz, el_int, el_bl, el_str, el_non, new_own, new_top, new_pl, io_own, io_top, io_pl, asB_bl, asI_int, ent_top, ent_pl, fr_own, fr_top, fr_pl, pu_int, pu_bl, pu_str, pu_non, pu_tup, pu_lst, pu_nil, pu_cons, pe_lst', no_nil, no_cons, al_nil, al_cons, od_rt, od_nx, ofO_some, d_add, d_sub, d_mul, d_div, d_mod, d_cat, d_catT, c_eqI, c_neI, c_lt, c_le, c_gt, c_ge, List.map_cons, List.map_nil, List.length_cons, List.length_nil, List.getElem?_cons_zero, List.getElem?_cons_succ, List.set_cons_zero, List.set_cons_succ, List.cons_append, List.nil_append, List.append_nil, List.replicate, Nat.reduceAdd, Nat.reduceSub, Bool.true_and, Bool.and_true, Bool.false_and, Bool.and_false, Bool.true_or, Bool.or_true, Bool.false_or, Bool.or_false, Bool.not_true, Bool.not_false, if_true, if_false, Bool.false_eq_true, reduceIte, asD_t, get_t, eb, hq, eq_self, decide_true]
          · (apply seq_step; focus (simp (disch := (first | trivial | omega | (simp only [true_and, and_true, lim, List.length_cons, List.length_nil, List.length_map, List.length_append] <;> first | trivial | omega) | assumption)) only [asOwn, asOwnL, runB, evSs, evS, evE, evEs, evB, evIt, isV, isNo, bind_ok, bind_ex, guard_t, env0, mk_lst, mk_dct, mk_tup, mk_frz, mk_int, mk_bl, mk_str, mk_non, el_lst, el_dct, el_tup, el_frz, el_int, el_bl, el_str, el_non, new_own, new_top, new_pl, io_own, io_top, io_pl, asB_bl, asI_int, ent_top, ent_pl, fr_own, fr_top, fr_pl, pu_int, pu_bl, pu_str, pu_non, pu_tup, pu_lst, pu_nil, pu_cons, pe_lst', no_nil, no_cons, al_nil, al_cons, od_rt, od_nx, ofO_some, d_add, d_sub, d_mul, d_div, d_mod, d_cat, d_catT, c_eqI, c_neI, c_lt, c_le, c_gt, c_ge, List.map_cons, List.map_nil, List.length_cons, List.length_nil, List.getElem?_cons_zero, List.getElem?_cons_succ, List.set_cons_zero, List.set_cons_succ, List.cons_append, List.nil_append, List.append_nil, List.replicate, Nat.reduceAdd, Nat.reduceSub, Bool.true_and, Bool.and_true, Bool.false_and, Bool.and_false, Bool.true_or, Bool.or_true, Bool.false_or, Bool.or_false, Bool.not_true, Bool.not_false, if_true, if_false, Bool.false_eq_true, reduceIte, ef]; exact rfl))
            apply seq_rt
            refine if_t (k := .pl true) ?_ (seq_rt ?_)
            · simp (disch := (first | trivial | omega | (simp only [true_and, and_true, lim, List.length_cons, List.length_nil, List.length_map, List.length_append] <;> first | trivial | omega) | assumption)) only [asOwn, asOwnL, runB, evSs, evS, evE, evEs, evB, evIt, isV, isNo, bind_ok, bind_ex, guard_t, env0, mk_lst, mk_dct, mk_tup, mk_frz, mk_int, mk_bl, mk_str, mk_non, el_lst, el_dct, el_tup, el_frz, el_int, el_bl, el_str, el_non, new_own, new_top, new_pl, io_own, io_top, io_pl, asB_bl, asI_int, ent_top, ent_pl, fr_own, fr_top, fr_pl, pu_int, pu_bl, pu_str, pu_non, pu_tup, pu_lst, pu_nil, pu_cons, pe_lst', no_nil, no_cons, al_nil, al_cons, od_rt, od_nx, ofO_some, d_add, d_sub, d_mul, d_div, d_mod, d_cat, d_catT, c_eqI, c_neI, c_lt, c_le, c_gt, c_ge, List.map_cons, List.map_nil, List.length_cons, List.length_nil, List.getElem?_cons_zero, List.getElem?_cons_succ, List.set_cons_zero, List.set_cons_succ, List.cons_append, List.nil_append, List.append_nil, List.replicate, Nat.reduceAdd, Nat.reduceSub, Bool.true_and, Bool.and_true, Bool.false_and, Bool.and_false, Bool.true_or, Bool.or_true, Bool.false_or, Bool.or_false, Bool.not_true, Bool.not_false, if_true, if_false, Bool.false_eq_true, reduceIte, c_isN_tup]
            · simp (disch := (first | trivial | omega | (simp only [true_and, and_true, lim, List.length_cons, List.length_nil, List.length_map, List.length_append] <;> first | trivial | omega) | assumption)) only [asOwn, asOwnL, runB, evSs, evS, evE, evEs, evB, evIt, isV, isNo, bind_ok, bind_ex, guard_t, env0, mk_lst, mk_dct, mk_tup, mk_frz, mk_int, mk_bl, mk_str, mk_non, el_lst, el_dct, el_tup, el_frz, el_int, el_bl, el_str, el_non, new_own, new_top, new_pl, io_own, io_top, io_pl, asB_bl, asI_int, ent_top, ent_pl, fr_own, fr_top, fr_pl, pu_int, pu_bl, pu_str, pu_non, pu_tup, pu_lst, pu_nil, pu_cons, pe_lst', no_nil, no_cons, al_nil, al_cons, od_rt, od_nx, ofO_some, d_add, d_sub, d_mul, d_div, d_mod, d_cat, d_catT, c_eqI, c_neI, c_lt, c_le, c_gt, c_ge, List.map_cons, List.map_nil, List.length_cons, List.length_nil, List.getElem?_cons_zero, List.getElem?_cons_succ, List.set_cons_zero, List.set_cons_succ, List.cons_append, List.nil_append, List.append_nil, List.replicate, Nat.reduceAdd, Nat.reduceSub, Bool.true_and, Bool.and_true, Bool.false_and, Bool.and_false, Bool.true_or, Bool.or_true, Bool.false_or, Bool.or_false, Bool.not_true, Bool.not_false, if_true, if_false, Bool.false_eq_true, reduceIte, hpr]
        | none =>
          rw [hf] at ef
          have ef : PyV.run T G Z (L + 1) fl [w.D, .lst (ds.map D.int ++ [.int d]), tD t, bD br] = .ok .non := ef
          refine ⟨fun d' h' => (by cases h'), fun _ => ⟨_, ?_, some (.new, .int d), some (.new, .non), rfl⟩⟩
          refine seq_last (if_t (k := .pl true) ?_ ?_)
          · simp (disch := (first | trivial | omega | (simp only [true_and, and_true, lim, List.length_cons, List.length_nil, List.length_map, List.length_append] <;> first | trivial | omega) | assumption)) only [asOwn, asOwnL, runB, evSs, evS, evE, evEs, evB, evIt, isV, isNo, bind_ok, bind_ex, guard_t, env0, mk_lst, mk_dct, mk_tup, mk_frz, mk_int, mk_bl, mk_str, mk_non, el_lst, el_dct, el_tup, el_frz, el_int, el_bl, el_str, el_non, new_own, new_top, new_pl, io_own, io_top, io_pl, asB_bl, asI_int, ent_top, ent_pl, fr_own, fr_top, fr_pl, pu_int, pu_bl, pu_str, pu_non, pu_tup, pu_lst, pu_nil, pu_cons, pe_lst', no_nil, no_cons, al_nil, al_cons, od_rt, od_nx, ofO_some, d_add, d_sub, d_mul, d_div, d_mod, d_cat, d_catT, c_eqI, c_neI, c_lt, c_le, c_gt, c_ge, List.map_cons, List.map_nil, List.length_cons, List.length_nil, List.getElem?_cons_zero, List.getElem?_cons_succ, List.set_cons_zero, List.set_cons_succ, List.cons_append, List.nil_append, List.append_nil, List.replicate, Nat.reduceAdd, Nat.reduceSub, Bool.true_and, Bool.and_true, Bool.false_and, Bool.and_false, Bool.true_or, Bool.or_true, Bool.false_or, Bool.or_false, Bool.not_true, Bool.not_false, if_true, if_false, Bool.false_eq_true, reduceIte, asD_t, get_t, eb, hq, eq_self, decide_true]
          · apply seq_step
            · simp (disch := (first | trivial | omega | (simp only [true_and, and_true, lim, List.length_cons, List.length_nil, List.length_map, List.length_append] <;> first | trivial | omega) | assumption)) only [asOwn, asOwnL, runB, evSs, evS, evE, evEs, evB, evIt, isV, isNo, bind_ok, bind_ex, guard_t, env0, mk_lst, mk_dct, mk_tup, mk_frz, mk_int, mk_bl, mk_str, mk_non, el_lst, el_dct, el_tup, el_frz, el_int, el_bl, el_str, el_non, new_own, new_top, new_pl, io_own, io_top, io_pl, asB_bl, asI_int, ent_top, ent_pl, fr_own, fr_top, fr_pl, pu_int, pu_bl, pu_str, pu_non, pu_tup, pu_lst, pu_nil, pu_cons, pe_lst', no_nil, no_cons, al_nil, al_cons, od_rt, od_nx, ofO_some, d_add, d_sub, d_mul, d_div, d_mod, d_cat, d_catT, c_eqI, c_neI, c_lt, c_le, c_gt, c_ge, List.map_cons, List.map_nil, List.length_cons, List.length_nil, List.getElem?_cons_zero, List.getElem?_cons_succ, List.set_cons_zero, List.set_cons_succ, List.cons_append, List.nil_append, List.append_nil, List.replicate, Nat.reduceAdd, Nat.reduceSub, Bool.true_and, Bool.and_true, Bool.false_and, Bool.and_false, Bool.true_or, Bool.or_true, Bool.false_or, Bool.or_false, Bool.not_true, Bool.not_false, if_true, if_false, Bool.false_eq_true, reduceIte, ef]
              exact rfl
            refine seq_last (if_f (k := .pl true) ?_ seq_nil)
            simp (disch := (first | trivial | omega | (simp only [true_and, and_true, lim, List.length_cons, List.length_nil, List.length_map, List.length_append] <;> first | trivial | omega) | assumption)) only [asOwn, asOwnL, runB, evSs, evS, evE, evEs, evB, evIt, isV, isNo, bind_ok, bind_ex, guard_t, env0, mk_lst, mk_dct, mk_tup, mk_frz, mk_int, mk_bl, mk_str, mk_non, el_lst, el_dct, el_tup, el_frz, el_int, el_bl, el_str, el_non, new_own, new_top, new_pl, io_own, io_top, io_pl, asB_bl, asI_int, ent_top, ent_pl, fr_own, fr_top, fr_pl, pu_int, pu_bl, pu_str, pu_non, pu_tup, pu_lst, pu_nil, pu_cons, pe_lst', no_nil, no_cons, al_nil, al_cons, od_rt, od_nx, ofO_some, d_add, d_sub, d_mul, d_div, d_mod, d_cat, d_catT, c_eqI, c_neI, c_lt, c_le, c_gt, c_ge, List.map_cons, List.map_nil, List.length_cons, List.length_nil, List.getElem?_cons_zero, List.getElem?_cons_succ, List.set_cons_zero, List.set_cons_succ, List.cons_append, List.nil_append, List.append_nil, List.replicate, Nat.reduceAdd, Nat.reduceSub, Bool.true_and, Bool.and_true, Bool.false_and, Bool.and_false, Bool.true_or, Bool.or_true, Bool.false_or, Bool.or_false, Bool.not_true, Bool.not_false, if_true, if_false, Bool.false_eq_true, reduceIte, c_isN_non]
      · simp only [hq, if_false]
        refine ⟨fun d' h' => (by cases h'), fun _ => ⟨_, ?_, some (.new, .int d), s7, rfl⟩⟩
        refine seq_last (if_f (k := .pl true) ?_ seq_nil)
        simp (disch := (first | trivial | omega | (simp only [true_and, and_true, lim, List.length_cons, List.length_nil, List.length_map, List.length_append] <;> first | trivial | omega) | assumption)) only [asOwn, asOwnL, runB, evSs, evS, evE, evEs, evB, evIt, isV, isNo, bind_ok, bind_ex, guard_t, env0, mk_lst, mk_dct, mk_tup, mk_frz, mk_int, mk_bl, mk_str, mk_non, el_lst, el_dct, el_tup, el_frz, el_int, el_bl, el_str, el_non, new_own, new_top, new_pl, io_own, io_top, io_pl, asB_bl, asI_int, ent_top, ent_pl, fr_own, fr_top, fr_pl, pu_int, pu_bl, pu_str, pu_non, pu_tup, pu_lst, pu_nil, pu_cons, pe_lst', no_nil, no_cons, al_nil, al_cons, od_rt, od_nx, ofO_some, d_add, d_sub, d_mul, d_div, d_mod, d_cat, d_catT, c_eqI, c_neI, c_lt, c_le, c_gt, c_ge, List.map_cons, List.map_nil, List.length_cons, List.length_nil, List.getElem?_cons_zero, List.getElem?_cons_succ, List.set_cons_zero, List.set_cons_succ, List.cons_append, List.nil_append, List.append_nil, List.replicate, Nat.reduceAdd, Nat.reduceSub, Bool.true_and, Bool.and_true, Bool.false_and, Bool.and_false, Bool.true_or, Bool.or_true, Bool.false_or, Bool.or_false, Bool.not_true, Bool.not_false, if_true, if_false, Bool.false_eq_true, reduceIte, asD_t, get_t, eb, hq, decide_false])
    have hfs : ∀ cs : List Int, (cs.map D.int).findSome? (fun x => match x with
        | .int d => ((if (lookI t ((w.inp + k : Nat) : Int)).getD d = d then fillI w t br (k + 1) (w.parts.drop (k + 1)) (ds ++ [d]) else none).map fun r => D.tup (r.map D.int))
        | _ => none) = (cs.findSome? fun d => if (lookI t ((w.inp + k : Nat) : Int)).getD d = d then fillI w t br (k + 1) (w.parts.drop (k + 1)) (ds ++ [d]) else none).map fun r => D.tup (r.map D.int) := by
      intro cs
      induction cs with
      | nil => rfl
      | cons c cs ihc =>
        rw [List.map_cons, List.findSome?_cons, List.findSome?_cons]
        dsimp only
        cases (if (lookI t ((w.inp + k : Nat) : Int)).getD c = c then fillI w t br (k + 1) (w.parts.drop (k + 1)) (ds ++ [c]) else none) with
        | some r => rfl
        | none => exact ihc
    rw [hfs] at lf
    have fe : fillI w t br k (p :: w.parts.drop (k + 1)) ds = ((choicesI w.ring br k p ds).findSome? fun d => if (lookI t ((w.inp + k : Nat) : Int)).getD d = d then fillI w t br (k + 1) (w.parts.drop (k + 1)) (ds ++ [d]) else none) := rfl
    rw [← fe] at lf
    have efor : ∀ ρ : Env, ρ = [some (.old, w.D), some (.old, .lst (ds.map D.int)), some (.old, tD t), some (.old, bD br), some (.new, .int ds.length), some (.new, .int k), none, none] → True := fun _ _ => trivial
    cases hf : fillI w t br k (p :: w.parts.drop (k + 1)) ds with
    | some r =>
      rw [hf] at lf
      have l1 := lf.1 _ rfl
      apply seq_rt
      rw [for_sq (kd := .top true) (x := .lst ((choicesI w.ring br k p ds).map D.int)) (xs := (choicesI w.ring br k p ds).map D.int) (by simp (disch := (first | trivial | omega | (simp only [true_and, and_true, lim, List.length_cons, List.length_nil, List.length_map, List.length_append] <;> first | trivial | omega) | assumption)) only [asOwn, asOwnL, runB, evSs, evS, evE, evEs, evB, evIt, isV, isNo, bind_ok, bind_ex, guard_t, env0, mk_lst, mk_dct, mk_tup, mk_frz, mk_int, mk_bl, mk_str, mk_non, el_lst, el_dct, el_tup, el_frz, el_int, el_bl, el_str, el_non, new_own, new_top, new_pl, io_own, io_top, io_pl, asB_bl, asI_int, ent_top, ent_pl, fr_own, fr_top, fr_pl, pu_int, pu_bl, pu_str, pu_non, pu_tup, pu_lst, pu_nil, pu_cons, pe_lst', no_nil, no_cons, al_nil, al_cons, od_rt, od_nx, ofO_some, d_add, d_sub, d_mul, d_div, d_mod, d_cat, d_catT, c_eqI, c_neI, c_lt, c_le, c_gt, c_ge, List.map_cons, List.map_nil, List.length_cons, List.length_nil, List.getElem?_cons_zero, List.getElem?_cons_succ, List.set_cons_zero, List.set_cons_succ, List.cons_append, List.nil_append, List.append_nil, List.replicate, Nat.reduceAdd, Nat.reduceSub, Bool.true_and, Bool.and_true, Bool.false_and, Bool.and_false, Bool.true_or, Bool.or_true, Bool.false_or, Bool.or_false, Bool.not_true, Bool.not_false, if_true, if_false, Bool.false_eq_true, reduceIte, ec]) rfl rfl]
      exact l1
    | none =>
      rw [hf] at lf
      obtain ⟨ρ', l1, s6, s7, rfl⟩ := lf.2 rfl
      apply seq_step
      · rw [for_sq (kd := .top true) (x := .lst ((choicesI w.ring br k p ds).map D.int)) (xs := (choicesI w.ring br k p ds).map D.int) (by simp (disch := (first | trivial | omega | (simp only [true_and, and_true, lim, List.length_cons, List.length_nil, List.length_map, List.length_append] <;> first | trivial | omega) | assumption)) only [asOwn, asOwnL, runB, evSs, evS, evE, evEs, evB, evIt, isV, isNo, bind_ok, bind_ex, guard_t, env0, mk_lst, mk_dct, mk_tup, mk_frz, mk_int, mk_bl, mk_str, mk_non, el_lst, el_dct, el_tup, el_frz, el_int, el_bl, el_str, el_non, new_own, new_top, new_pl, io_own, io_top, io_pl, asB_bl, asI_int, ent_top, ent_pl, fr_own, fr_top, fr_pl, pu_int, pu_bl, pu_str, pu_non, pu_tup, pu_lst, pu_nil, pu_cons, pe_lst', no_nil, no_cons, al_nil, al_cons, od_rt, od_nx, ofO_some, d_add, d_sub, d_mul, d_div, d_mod, d_cat, d_catT, c_eqI, c_neI, c_lt, c_le, c_gt, c_ge, List.map_cons, List.map_nil, List.length_cons, List.length_nil, List.getElem?_cons_zero, List.getElem?_cons_succ, List.set_cons_zero, List.set_cons_succ, List.cons_append, List.nil_append, List.append_nil, List.replicate, Nat.reduceAdd, Nat.reduceSub, Bool.true_and, Bool.and_true, Bool.false_and, Bool.and_false, Bool.true_or, Bool.or_true, Bool.false_or, Bool.or_false, Bool.not_true, Bool.not_false, if_true, if_false, Bool.false_eq_true, reduceIte, ec]) rfl rfl]
        exact l1
      apply seq_rt
      simp (disch := (first | trivial | omega | (simp only [true_and, and_true, lim, List.length_cons, List.length_nil, List.length_map, List.length_append] <;> first | trivial | omega) | assumption)) only [asOwn, asOwnL, runB, evSs, evS, evE, evEs, evB, evIt, isV, isNo, bind_ok, bind_ex, guard_t, env0, mk_lst, mk_dct, mk_tup, mk_frz, mk_int, mk_bl, mk_str, mk_non, el_lst, el_dct, el_tup, el_frz, el_int, el_bl, el_str, el_non, new_own, new_top, new_pl, io_own, io_top, io_pl, asB_bl, asI_int, ent_top, ent_pl, fr_own, fr_top, fr_pl, pu_int, pu_bl, pu_str, pu_non, pu_tup, pu_lst, pu_nil, pu_cons, pe_lst', no_nil, no_cons, al_nil, al_cons, od_rt, od_nx, ofO_some, d_add, d_sub, d_mul, d_div, d_mod, d_cat, d_catT, c_eqI, c_neI, c_lt, c_le, c_gt, c_ge, List.map_cons, List.map_nil, List.length_cons, List.length_nil, List.getElem?_cons_zero, List.getElem?_cons_succ, List.set_cons_zero, List.set_cons_succ, List.cons_append, List.nil_append, List.append_nil, List.replicate, Nat.reduceAdd, Nat.reduceSub, Bool.true_and, Bool.and_true, Bool.false_and, Bool.and_false, Bool.true_or, Bool.or_true, Bool.false_or, Bool.or_false, Bool.not_true, Bool.not_false, if_true, if_false, Bool.false_eq_true, reduceIte]
      rfl
end PyV
namespace PyV
open PySem L2
/-! ### room, rooms -/
def dictI (sn : List (Int × Int)) : List (Int × Int) := sn.foldl (fun acc p => putI acc p.1 p.2) []
theorem merge_t : ∀ (sn acc : List (Int × Int)), mergeD (tK acc) (tK sn) = tK (sn.foldl (fun acc p => putI acc p.1 p.2) acc)
  | [], _ => rfl
  | p :: sn, acc => by
    show mergeD (putD (tK acc) (.inl p.1) (.int p.2)) (tK sn) = _
    rw [put_t, merge_t sn]
    rfl
theorem pairsT_s : ∀ sn : List (Int × Int), pairsT (sn.map pD) = some (tK sn)
  | [] => rfl
  | p :: sn => by
    show pairsT (.tup [.int p.1, .int p.2] :: sn.map pD) = _
    unfold pairsT
    rw [pairsT_s sn]
    rfl
theorem dict_s (sn : List (Int × Int)) : dBlt .dict [sD sn] = .ok (tD (dictI sn)) := by
  show (match pairsT (sn.map pD) with
    | some kvs => M.ok (D.dct (mergeD [] kvs))
    | none => .stuck) = _
  rw [pairsT_s]
  show M.ok (D.dct (mergeD (tK []) (tK sn))) = _
  rw [merge_t]
  rfl
def roomF (lk sx fl : Nat) : Fn := ⟨3, 3, (.cons (.exp (.call lk (.cons (.v 0) (.cons (.v 1) .nil)))) (.cons (.exp (.call sx (.cons (.v 0) (.cons (.v 2) .nil)))) (.cons (.ret (.call fl (.cons (.v 0) (.cons (.bl .list (.cons (.ix (.v 1) (.ki 0)) .nil)) (.cons (.bl .dict (.cons (.ix (.v 1) (.ki 1)) .nil)) (.cons (.v 2) .nil)))))) .nil)))⟩
theorem mk_opt (n : Bool) (o : Option (List Int)) : (mkR n (optD o)).2 = optD o ∧ freshR (mkR true (optD o)) = true := by
  cases o <;> exact ⟨rfl, rfl⟩
theorem run_room (S : Sig) (lk sx fl : Nat) {w : Wk} {gs : List Int} {sn : List (Int × Int)} {br : List Int} {o : Option (List Int)} (h1 : S.call lk [w.D, lD gs sn] = .ok (.bl true)) (h2 : S.call sx [w.D, bD br] = .ok (.bl true))
    (h3 : S.call fl [w.D, .lst (gs.map D.int), tD (dictI sn), bD br] = .ok (optD o)) : runB S (roomF lk sx fl) [w.D, lD gs sn, bD br] = .ok (optD o) := by
  unfold roomF
  refine run_rt ?_
  (apply seq_step; focus (simp (disch := (first | trivial | omega | (simp only [true_and, and_true, lim, List.length_cons, List.length_nil, List.length_map, List.length_append] <;> first | trivial | omega) | assumption)) only [asOwn, asOwnL, runB, evSs, evS, evE, evEs, evB, evIt, isV, isNo, bind_ok, bind_ex, guard_t, env0, mk_lst, mk_dct, mk_tup, mk_frz, mk_int, mk_bl, mk_str, mk_non, el_lst, el_dct, el_tup, el_frz, el_int, el_bl, el_str, el_non, new_own, new_top, new_pl, io_own, io_top, io_pl, asB_bl, asI_int, ent_top, ent_pl, fr_own, fr_top, fr_pl, pu_int, pu_bl, pu_str, pu_non, pu_tup, pu_lst, pu_nil, pu_cons, pe_lst', no_nil, no_cons, al_nil, al_cons, od_rt, od_nx, ofO_some, d_add, d_sub, d_mul, d_div, d_mod, d_cat, d_catT, c_eqI, c_neI, c_lt, c_le, c_gt, c_ge, List.map_cons, List.map_nil, List.length_cons, List.length_nil, List.getElem?_cons_zero, List.getElem?_cons_succ, List.set_cons_zero, List.set_cons_succ, List.cons_append, List.nil_append, List.append_nil, List.replicate, Nat.reduceAdd, Nat.reduceSub, Bool.true_and, Bool.and_true, Bool.false_and, Bool.and_false, Bool.true_or, Bool.or_true, Bool.false_or, Bool.or_false, Bool.not_true, Bool.not_false, if_true, if_false, Bool.false_eq_true, reduceIte, h1]; exact rfl))
  (apply seq_step; focus (simp (disch := (first | trivial | omega | (simp only [true_and, and_true, lim, List.length_cons, List.length_nil, List.length_map, List.length_append] <;> first | trivial | omega) | assumption)) only [asOwn, asOwnL, runB, evSs, evS, evE, evEs, evB, evIt, isV, isNo, bind_ok, bind_ex, guard_t, env0, mk_lst, mk_dct, mk_tup, mk_frz, mk_int, mk_bl, mk_str, mk_non, el_lst, el_dct, el_tup, el_frz, el_int, el_bl, el_str, el_non, new_own, new_top, new_pl, io_own, io_top, io_pl, asB_bl, asI_int, ent_top, ent_pl, fr_own, fr_top, fr_pl, pu_int, pu_bl, pu_str, pu_non, pu_tup, pu_lst, pu_nil, pu_cons, pe_lst', no_nil, no_cons, al_nil, al_cons, od_rt, od_nx, ofO_some, d_add, d_sub, d_mul, d_div, d_mod, d_cat, d_catT, c_eqI, c_neI, c_lt, c_le, c_gt, c_ge, List.map_cons, List.map_nil, List.length_cons, List.length_nil, List.getElem?_cons_zero, List.getElem?_cons_succ, List.set_cons_zero, List.set_cons_succ, List.cons_append, List.nil_append, List.append_nil, List.replicate, Nat.reduceAdd, Nat.reduceSub, Bool.true_and, Bool.and_true, Bool.false_and, Bool.and_false, Bool.true_or, Bool.or_true, Bool.false_or, Bool.or_false, Bool.not_true, Bool.not_false, if_true, if_false, Bool.false_eq_true, reduceIte, h2]; exact rfl))
  apply seq_rt
  cases o with
  | some r =>
    have h3 : S.call fl [w.D, .lst (gs.map D.int), tD (dictI sn), bD br] = .ok (.tup (r.map D.int)) := h3
    simp (disch := (first | trivial | omega | (simp only [true_and, and_true, lim, List.length_cons, List.length_nil, List.length_map, List.length_append] <;> first | trivial | omega) | assumption)) only [asOwn, asOwnL, runB, evSs, evS, evE, evEs, evB, evIt, isV, isNo, bind_ok, bind_ex, guard_t, env0, mk_lst, mk_dct, mk_tup, mk_frz, mk_int, mk_bl, mk_str, mk_non, el_lst, el_dct, el_tup, el_frz, el_int, el_bl, el_str, el_non, new_own, new_top, new_pl, io_own, io_top, io_pl, asB_bl, asI_int, ent_top, ent_pl, fr_own, fr_top, fr_pl, pu_int, pu_bl, pu_str, pu_non, pu_tup, pu_lst, pu_nil, pu_cons, pe_lst', no_nil, no_cons, al_nil, al_cons, od_rt, od_nx, ofO_some, d_add, d_sub, d_mul, d_div, d_mod, d_cat, d_catT, c_eqI, c_neI, c_lt, c_le, c_gt, c_ge, List.map_cons, List.map_nil, List.length_cons, List.length_nil, List.getElem?_cons_zero, List.getElem?_cons_succ, List.set_cons_zero, List.set_cons_succ, List.cons_append, List.nil_append, List.append_nil, List.replicate, Nat.reduceAdd, Nat.reduceSub, Bool.true_and, Bool.and_true, Bool.false_and, Bool.and_false, Bool.true_or, Bool.or_true, Bool.false_or, Bool.or_false, Bool.not_true, Bool.not_false, if_true, if_false, Bool.false_eq_true, reduceIte, ixl0, ixl1, el_s, list_tup, dict_s, mk_t, h3]
    rfl
  | none =>
    have h3 : S.call fl [w.D, .lst (gs.map D.int), tD (dictI sn), bD br] = .ok .non := h3
    simp (disch := (first | trivial | omega | (simp only [true_and, and_true, lim, List.length_cons, List.length_nil, List.length_map, List.length_append] <;> first | trivial | omega) | assumption)) only [asOwn, asOwnL, runB, evSs, evS, evE, evEs, evB, evIt, isV, isNo, bind_ok, bind_ex, guard_t, env0, mk_lst, mk_dct, mk_tup, mk_frz, mk_int, mk_bl, mk_str, mk_non, el_lst, el_dct, el_tup, el_frz, el_int, el_bl, el_str, el_non, new_own, new_top, new_pl, io_own, io_top, io_pl, asB_bl, asI_int, ent_top, ent_pl, fr_own, fr_top, fr_pl, pu_int, pu_bl, pu_str, pu_non, pu_tup, pu_lst, pu_nil, pu_cons, pe_lst', no_nil, no_cons, al_nil, al_cons, od_rt, od_nx, ofO_some, d_add, d_sub, d_mul, d_div, d_mod, d_cat, d_catT, c_eqI, c_neI, c_lt, c_le, c_gt, c_ge, List.map_cons, List.map_nil, List.length_cons, List.length_nil, List.getElem?_cons_zero, List.getElem?_cons_succ, List.set_cons_zero, List.set_cons_succ, List.cons_append, List.nil_append, List.append_nil, List.replicate, Nat.reduceAdd, Nat.reduceSub, Bool.true_and, Bool.and_true, Bool.false_and, Bool.and_false, Bool.true_or, Bool.or_true, Bool.false_or, Bool.or_false, Bool.not_true, Bool.not_false, if_true, if_false, Bool.false_eq_true, reduceIte, ixl0, ixl1, el_s, list_tup, dict_s, mk_t, h3]
    rfl
/-! ### the law's rows -/
def okI (w : Wk) (t : List (Int × Int)) (k : Nat) (d : Int) : Bool := decide ((lookI t ((w.inp + k : Nat) : Int)).getD d = d)
def stepI (w : Wk) (t : List (Int × Int)) (br : List Int) (k : Nat) (p : Pt) (rows : List (List Int)) : List (List Int) :=
  rows.flatMap fun r => ((choicesI w.ring br k p r).filter (okI w t k)).map fun d => r ++ [d]
def allI (w : Wk) (t : List (Int × Int)) (br : List Int) : Nat → List Pt → List (List Int) → List (List Int)
  | _, [], rows => rows
  | k, p :: ps, rows => allI w t br (k + 1) ps (stepI w t br k p rows)
def rD (r : List Int) : D := .lst (r.map D.int)
theorem stepI_app (w : Wk) (t : List (Int × Int)) (br : List Int) (k : Nat) (p : Pt) (a b : List (List Int)) : stepI w t br k p (a ++ b) = stepI w t br k p a ++ stepI w t br k p b := by
  unfold stepI; rw [List.flatMap_append]
theorem allI_app (w : Wk) (t : List (Int × Int)) (br : List Int) : ∀ (ps : List Pt) (k : Nat) (a b : List (List Int)), allI w t br k ps (a ++ b) = allI w t br k ps a ++ allI w t br k ps b
  | [], _, _, _ => rfl
  | p :: ps, k, a, b => by
    show allI w t br (k + 1) ps (stepI w t br k p (a ++ b)) = _
    rw [stepI_app, allI_app w t br ps]
    rfl
theorem allI_nil (w : Wk) (t : List (Int × Int)) (br : List Int) : ∀ (ps : List Pt) (k : Nat), allI w t br k ps [] = []
  | [], _ => rfl
  | p :: ps, k => allI_nil w t br ps (k + 1)
/-- depth first finds the head of the rows -/
theorem fill_head (w : Wk) (t : List (Int × Int)) (br : List Int) : ∀ (ps : List Pt) (k : Nat) (ds : List Int), fillI w t br k ps ds = (allI w t br k ps [ds]).head?
  | [], _, _ => rfl
  | p :: ps, k, ds => by
    show (choicesI w.ring br k p ds).findSome? _ = (allI w t br (k + 1) ps (stepI w t br k p [ds])).head?
    have e : stepI w t br k p [ds] = ((choicesI w.ring br k p ds).filter (okI w t k)).map fun d => ds ++ [d] := by
      unfold stepI; simp
    rw [e]
    generalize choicesI w.ring br k p ds = cs
    induction cs with
    | nil =>
      show _ = (allI w t br (k + 1) ps []).head?
      rw [allI_nil]
      rfl
    | cons c cs ih =>
      rw [List.findSome?_cons]
      by_cases hq : (lookI t ((w.inp + k : Nat) : Int)).getD c = c
      · have ho : okI w t k c = true := decide_eq_true hq
        rw [List.filter_cons_of_pos ho, List.map_cons, if_pos hq, fill_head w t br ps (k + 1)]
        have e2 : allI w t br (k + 1) ps ((ds ++ [c]) :: (cs.filter (okI w t k)).map fun d => ds ++ [d]) = allI w t br (k + 1) ps [ds ++ [c]] ++ allI w t br (k + 1) ps ((cs.filter (okI w t k)).map fun d => ds ++ [d]) :=
          allI_app w t br ps (k + 1) [ds ++ [c]] _
        rw [e2, List.head?_append]
        cases (allI w t br (k + 1) ps [ds ++ [c]]).head? with
        | some r => rfl
        | none => exact ih
      · have ho : ¬ okI w t k c = true := by simpa [okI] using hq
        rw [List.filter_cons_of_neg ho, if_neg hq]
        exact ih
end PyV
namespace PyV
open PySem L2
/-! ### the least row -/
def LexI : List Int → List Int → Prop
  | x :: xs, y :: ys => x < y ∨ (x = y ∧ LexI xs ys)
  | _, _ => False
theorem lex_app : ∀ {a b : List Int} (u v : List Int), LexI a b → LexI (a ++ u) (b ++ v)
  | [], _, _, _, h => h.elim
  | _ :: _, [], _, _, h => h.elim
  | x :: xs, y :: ys, u, v, h => h.elim .inl fun ⟨e, h⟩ => .inr ⟨e, lex_app u v h⟩
theorem lex_end : ∀ (r : List Int) {d e : Int}, d < e → LexI (r ++ [d]) (r ++ [e])
  | [], _, _, h => .inl h
  | x :: r, _, _, h => .inr ⟨rfl, lex_end r h⟩
theorem py_ints : ∀ ns : List Int, pyL (ns.map D.int) = ns.map PyData.int
  | [] => rfl
  | n :: ns => congrArg (PyData.int n :: ·) (py_ints ns)
theorem alike_ints : ∀ (xs ys : List Int), PySem.W.alikeAll (xs.map PyData.int) (ys.map PyData.int) = true
  | [], _ => by simp [PySem.W.alikeAll]
  | _ :: _, [] => by simp [PySem.W.alikeAll]
  | x :: xs, y :: ys => by
    rw [List.map_cons, List.map_cons, PySem.W.alikeAll, alike_ints xs ys, PySem.W.alike]
    rfl
theorem lex_no : ∀ {a b : List Int}, LexI a b → PyProof.Rows.lexLt PyProof.Rows.itemOrd (PySem.W.keyToksAll (b.map PyData.int)) (PySem.W.keyToksAll (a.map PyData.int)) = false
  | [], _, h => h.elim
  | _ :: _, [], h => h.elim
  | x :: xs, y :: ys, h => by
    rw [List.map_cons, List.map_cons]
    rcases h with h | ⟨rfl, h⟩
    · rw [PySem.W.dataLt_all_no (by rw [PySem.W.alike]) (by simp [PyData.eqv]; omega), PySem.W.dataLt_int]
      exact decide_eq_false (by omega)
    · rw [PySem.W.dataLt_all_yes (by rw [PySem.W.alike]) (by simp [PyData.eqv])]
      exact lex_no h
theorem lt_no {a b : List Int} (h : LexI a b) : dLtD (rD b) (rD a) = false := by
  unfold dLtD rD
  show PySem.W.dataLt (.list (pyL (b.map D.int))) (.list (pyL (a.map D.int))) = false
  rw [py_ints, py_ints, PySem.W.dataLt_list]
  exact lex_no h
theorem pyOk_ints : ∀ ns : List Int, pyOkL (ns.map D.int) = true
  | [] => rfl
  | _ :: ns => pyOk_ints ns
theorem depth_ints : ∀ ns : List Int, PyData.depthAll (ns.map PyData.int) = 0
  | [] => by simp [PyData.depthAll]
  | n :: ns => by
    rw [List.map_cons, PyData.depthAll, depth_ints ns, PyData.depth]
    rfl
theorem minOk_rows (rows : List (List Int)) : minOk (rows.map rD) = true := by
  unfold minOk
  have h1 : pyOkL (rows.map rD) = true := by
    induction rows with
    | nil => rfl
    | cons r rows ih =>
      show (pyOkL (r.map D.int) && pyOkL (rows.map rD)) = true
      rw [pyOk_ints, ih]
      rfl
  have h2 : ((rows.map rD).all fun a => (rows.map rD).all fun b => PySem.W.alike (py a) (py b)) = true := by
    rw [List.all_eq_true]
    intro a ha
    rw [List.all_eq_true]
    intro b hb
    obtain ⟨x, _, rfl⟩ := List.mem_map.mp ha
    obtain ⟨y, _, rfl⟩ := List.mem_map.mp hb
    show PySem.W.alike (.list (pyL (x.map D.int))) (.list (pyL (y.map D.int))) = true
    rw [py_ints, py_ints, PySem.W.alike]
    exact alike_ints x y
  have h3 : ((rows.map rD).all fun a => !isNon a) = true := by
    rw [List.all_map]
    exact List.all_eq_true.mpr fun _ _ => rfl
  have h4 : PyData.depthAll (pyL (rows.map rD)) ≤ 1 := by
    clear h1 h2 h3
    induction rows with
    | nil => simp [pyL, PyData.depthAll]
    | cons r rows ih =>
      show PyData.depthAll (.list (pyL (r.map D.int)) :: pyL (rows.map rD)) ≤ 1
      rw [PyData.depthAll, PyData.depth, py_ints, depth_ints]
      omega
  rw [h1, h2, h3]
  simp only [Bool.true_and]
  exact decide_eq_true (by omega)
theorem min_rows {r : List Int} {rows : List (List Int)} (h : (r :: rows).Pairwise LexI) : dMin (.lst ((r :: rows).map rD)) = .ok (rD r) := by
  rw [List.map_cons]
  show guard' (minOk (rD r :: rows.map rD) = true) (M.ok ((rows.map rD).foldl (fun a y => if dLtD y a then y else a) (rD r))) = _
  have hm : minOk (rD r :: rows.map rD) = true := minOk_rows (r :: rows)
  rw [guard_t hm]
  have h1 : ∀ y ∈ rows, LexI r y := (List.pairwise_cons.mp h).1
  clear h hm
  have : (rows.map rD).foldl (fun a y => if dLtD y a then y else a) (rD r) = rD r := by
    induction rows with
    | nil => rfl
    | cons y rows ih =>
      rw [List.map_cons, List.foldl_cons, lt_no (h1 y List.mem_cons_self)]
      exact ih fun z hz => h1 z (List.mem_cons_of_mem _ hz)
  rw [this]
theorem rangeI_lt (r : Int) : (rangeI r).Pairwise (· < ·) := by
  unfold rangeI
  rw [List.pairwise_map]
  exact List.pairwise_lt_range.imp fun h => by omega
theorem choices_lt (ring : Int) (br : List Int) (k : Nat) (p : Pt) (ds : List Int) : (choicesI ring br k p ds).Pairwise (· < ·) := by
  unfold choicesI
  split
  · exact rangeI_lt ring
  · exact List.pairwise_singleton _ _
theorem step_lex (w : Wk) (t : List (Int × Int)) (br : List Int) (k : Nat) (p : Pt) {rows : List (List Int)} (h : rows.Pairwise LexI) : (stepI w t br k p rows).Pairwise LexI := by
  unfold stepI
  rw [List.pairwise_flatMap]
  refine ⟨fun r _ => ?_, h.imp fun {a b} hab x hx y hy => ?_⟩
  · rw [List.pairwise_map]
    exact ((choices_lt w.ring br k p r).filter _).imp fun h => lex_end r h
  · obtain ⟨d, _, rfl⟩ := List.mem_map.mp hx
    obtain ⟨e, _, rfl⟩ := List.mem_map.mp hy
    exact lex_app _ _ hab
theorem all_lex (w : Wk) (t : List (Int × Int)) (br : List Int) : ∀ (ps : List Pt) (k : Nat) {rows : List (List Int)}, rows.Pairwise LexI → (allI w t br k ps rows).Pairwise LexI
  | [], _, _, h => h
  | p :: ps, k, _, h => all_lex w t br ps (k + 1) (step_lex w t br k p h)
end PyV
namespace PyV
open PySem L2
/-! ### the law's rows, walked -/
theorem choices_len {ring : Int} (h : ring ≤ 5) (br : List Int) (k : Nat) (p : Pt) (ds : List Int) : (choicesI ring br k p ds).length ≤ 5 := by
  unfold choicesI rangeI
  split
  · rw [List.length_map, List.length_range]; omega
  · simp
theorem step_len {w : Wk} (h : w.ring ≤ 5) (t : List (Int × Int)) (br : List Int) (k : Nat) (p : Pt) : ∀ rows : List (List Int), (stepI w t br k p rows).length ≤ 5 * rows.length
  | [] => by simp [stepI]
  | r :: rows => by
    have ih := step_len h t br k p rows
    have e : stepI w t br k p (r :: rows) = ((choicesI w.ring br k p r).filter (okI w t k)).map (fun d => r ++ [d]) ++ stepI w t br k p rows := by
      unfold stepI; rw [List.flatMap_cons]
    rw [e, List.length_append, List.length_map, List.length_cons]
    have h1 := List.length_filter_le (okI w t k) (choicesI w.ring br k p r)
    have h2 := choices_len h br k p r
    omega
theorem step_mem {w : Wk} {t : List (Int × Int)} {br : List Int} {k : Nat} {p : Pt} {rows : List (List Int)} {n : Nat} (h : ∀ r ∈ rows, r.length = n) : ∀ r ∈ stepI w t br k p rows, r.length = n + 1 := by
  intro r hr
  unfold stepI at hr
  obtain ⟨x, hx, hr⟩ := List.mem_flatMap.mp hr
  obtain ⟨d, _, rfl⟩ := List.mem_map.mp hr
  rw [List.length_append, h x hx]
  rfl
theorem step_take (w : Wk) (t : List (Int × Int)) (br : List Int) (k : Nat) (p : Pt) {rows : List (List Int)} {j : Nat} {r : List Int} (h : rows[j]? = some r) : stepI w t br k p (rows.take (j + 1)) = stepI w t br k p (rows.take j) ++ ((choicesI w.ring br k p r).filter (okI w t k)).map fun d => r ++ [d] := by
  rw [List.take_add_one, h, stepI_app]
  congr 1
  unfold stepI
  simp
def lallF (due : Nat) : Fn := ⟨4, 11, (.cons (.set 4 false (.lst (.cons (.bl .list (.cons (.v 1) .nil)) .nil))) (.cons (.forr [5] (.r1 (.bl .len (.cons (.ix (.v 0) (.ki 2)) .nil))) (.cons (.set 6 false (.bin .Add (.ix (.v 0) (.ki 1)) (.v 5))) (.cons (.set 7 true (.lst .nil)) (.cons (.forr [8] (.sq (.v 4)) (.cons (.set 9 false (.lst (.cons (.call due (.cons (.ix (.ix (.v 0) (.ki 2)) (.v 5)) (.cons (.v 8) (.cons (.ix (.v 0) (.ki 0)) .nil)))) .nil))) (.cons (.iff (.cmp .In (.v 5) (.v 3)) (.cons (.set 9 false (.lrg (.ki 0) (.ix (.v 0) (.ki 0)))) .nil) .nil) (.cons (.forr [10] (.sq (.v 9)) (.cons (.iff (.cmp .Eq (.get2 (.v 2) (.v 6) (.v 10)) (.v 10)) (.cons (.app 7 (.bin .Add (.v 8) (.lst (.cons (.v 10) .nil)))) .nil) .nil) .nil)) .nil)))) (.cons (.set 4 false (.v 7)) .nil))))) (.cons (.ret (.v 4)) .nil)))⟩
theorem setE_rD (ρ : Env) (i : Nat) (n : Bool) (r : List Int) : setE ρ i n (rD r) = ρ.set i (some (if n then .new else .old, rD r)) := rfl
theorem d_catR {r : List Int} {d : Int} (h : r.length < 1000000) : dBin .Add (rD r) (.lst [.int d]) = .ok (rD (r ++ [d])) := by
  unfold rD
  rw [d_cat (by rw [List.length_map, List.length_cons, List.length_nil]; omega), List.map_append]
  rfl
theorem mk_r (n : Bool) (r : List Int) : mkR n (rD r) = (.top true, rD r) := by
  show (Kd.top (n || pureL (r.map D.int)), rD r) = _
  rw [pureL_ints, Bool.or_true]
theorem el_r (n : Bool) (r : List Int) : elR n (rD r) = (.pl n, rD r) := rfl
/-- the digits of one row -/
theorem run_digits (S : Sig) {w : Wk} {t : List (Int × Int)} {k : Nat} {r cs : List Int} {acc : List (List Int)} {s5 : Tg} {g br : D} {rows : D} (hr : r.length < 1000000) (ha : acc.length + cs.length < 1000000) (s10 : Option (Tg × D)) :
    ∃ s10', evS S (.forr [10] (.sq (.v 9)) (.cons (.iff (.cmp .Eq (.get2 (.v 2) (.v 6) (.v 10)) (.v 10)) (.cons (.app 7 (.bin .Add (.v 8) (.lst (.cons (.v 10) .nil)))) .nil) .nil) .nil))
      [some (.old, w.D), some (.old, g), some (.old, tD t), some (.old, br), some (.new, rows), some (.new, .int k), some (.new, .int ((w.inp + k : Nat) : Int)), some (.own, .lst (acc.map rD)), some (.new, rD r), some (.new, .lst (cs.map D.int)), s10] =
      .ok (.nx [some (.old, w.D), some (.old, g), some (.old, tD t), some (.old, br), some (.new, rows), some (.new, .int k), some (.new, .int ((w.inp + k : Nat) : Int)), some (.own, .lst ((acc ++ (cs.filter (okI w t k)).map fun d => r ++ [d]).map rD)), some (.new, rD r), some (.new, .lst (cs.map D.int)), s10']) := by
  obtain ⟨ρ', e, s10', rfl⟩ := for_sqP (S := S) (a := .v 9) (ts := [10]) (body := (.cons (.iff (.cmp .Eq (.get2 (.v 2) (.v 6) (.v 10)) (.v 10)) (.cons (.app 7 (.bin .Add (.v 8) (.lst (.cons (.v 10) .nil)))) .nil) .nil) .nil)) (kd := .pl true) (x := .lst (cs.map D.int)) (xs := cs.map D.int)
    (ρ := [some (.old, w.D), some (.old, g), some (.old, tD t), some (.old, br), some (.new, rows), some (.new, .int k), some (.new, .int ((w.inp + k : Nat) : Int)), some (.own, .lst (acc.map rD)), some (.new, rD r), some (.new, .lst (cs.map D.int)), s10])
    (fun i ρ => ∃ s10', ρ = [some (.old, w.D), some (.old, g), some (.old, tD t), some (.old, br), some (.new, rows), some (.new, .int k), some (.new, .int ((w.inp + k : Nat) : Int)), some (.own, .lst ((acc ++ ((cs.take i).filter (okI w t k)).map fun d => r ++ [d]).map rD)), some (.new, rD r), some (.new, .lst (cs.map D.int)), s10'])
    (by simp (disch := (first | trivial | omega | (simp only [true_and, and_true, lim, List.length_cons, List.length_nil, List.length_map, List.length_append] <;> first | trivial | omega) | assumption)) only [asOwn, asOwnL, runB, evSs, evS, evE, evEs, evB, evIt, isV, isNo, bind_ok, bind_ex, guard_t, env0, mk_lst, mk_dct, mk_tup, mk_frz, mk_int, mk_bl, mk_str, mk_non, el_lst, el_dct, el_tup, el_frz, el_int, el_bl, el_str, el_non, new_own, new_top, new_pl, io_own, io_top, io_pl, asB_bl, asI_int, ent_top, ent_pl, fr_own, fr_top, fr_pl, pu_int, pu_bl, pu_str, pu_non, pu_tup, pu_lst, pu_nil, pu_cons, pe_lst', no_nil, no_cons, al_nil, al_cons, od_rt, od_nx, ofO_some, d_add, d_sub, d_mul, d_div, d_mod, d_cat, d_catT, c_eqI, c_neI, c_lt, c_le, c_gt, c_ge, List.map_cons, List.map_nil, List.length_cons, List.length_nil, List.getElem?_cons_zero, List.getElem?_cons_succ, List.set_cons_zero, List.set_cons_succ, List.cons_append, List.nil_append, List.append_nil, List.replicate, Nat.reduceAdd, Nat.reduceSub, Bool.true_and, Bool.and_true, Bool.false_and, Bool.and_false, Bool.true_or, Bool.or_true, Bool.false_or, Bool.or_false, Bool.not_true, Bool.not_false, if_true, if_false, Bool.false_eq_true, reduceIte]) rfl rfl ⟨s10, by simp⟩ (by
    rintro j y ρ hj ⟨s, rfl⟩
    rw [List.getElem?_map] at hj
    cases hc : cs[j]? with
    | none => rw [hc] at hj; cases hj
    | some d =>
      rw [hc] at hj
      cases hj
      have hjl : j < cs.length := (List.getElem?_eq_some_iff.mp hc).1
      have hal : (acc ++ ((cs.take j).filter (okI w t k)).map fun d => r ++ [d]).length < 1000000 := by
        rw [List.length_append, List.length_map]
        have := List.length_filter_le (okI w t k) (cs.take j)
        rw [List.length_take] at this
        omega
      rw [List.take_add_one, hc, List.filter_append]
      generalize hA : acc ++ ((cs.take j).filter (okI w t k)).map (fun d => r ++ [d]) = A at hal
      have hA2 : acc ++ ((cs.take j).filter (okI w t k) ++ (some d).toList.filter (okI w t k)).map (fun d => r ++ [d]) = A ++ ((some d).toList.filter (okI w t k)).map fun d => r ++ [d] := by
        rw [List.map_append, ← List.append_assoc, hA]
      rw [hA2]
      refine ⟨_, ?_, some (.new, .int d), rfl⟩
      rw [bindT_1, bind_ok, setE_int]
      by_cases hq : (lookI t ((w.inp + k : Nat) : Int)).getD d = d
      · have ho : okI w t k d = true := decide_eq_true hq
        have e1 : (some d).toList.filter (okI w t k) = [d] := by simp [ho]
        rw [e1]
        have e2 := d_catR (d := d) hr
        refine seq_last (if_t (k := .pl true) ?_ (seq_last ?_))
        · simp (disch := (first | trivial | omega | (simp only [true_and, and_true, lim, List.length_cons, List.length_nil, List.length_map, List.length_append] <;> first | trivial | omega) | assumption)) only [asOwn, asOwnL, runB, evSs, evS, evE, evEs, evB, evIt, isV, isNo, bind_ok, bind_ex, guard_t, env0, mk_lst, mk_dct, mk_tup, mk_frz, mk_int, mk_bl, mk_str, mk_non, el_lst, el_dct, el_tup, el_frz, el_int, el_bl, el_str, el_non, new_own, new_top, new_pl, io_own, io_top, io_pl, asB_bl, asI_int, ent_top, ent_pl, fr_own, fr_top, fr_pl, pu_int, pu_bl, pu_str, pu_non, pu_tup, pu_lst, pu_nil, pu_cons, pe_lst', no_nil, no_cons, al_nil, al_cons, od_rt, od_nx, ofO_some, d_add, d_sub, d_mul, d_div, d_mod, d_cat, d_catT, c_eqI, c_neI, c_lt, c_le, c_gt, c_ge, List.map_cons, List.map_nil, List.length_cons, List.length_nil, List.getElem?_cons_zero, List.getElem?_cons_succ, List.set_cons_zero, List.set_cons_succ, List.cons_append, List.nil_append, List.append_nil, List.replicate, Nat.reduceAdd, Nat.reduceSub, Bool.true_and, Bool.and_true, Bool.false_and, Bool.and_false, Bool.true_or, Bool.or_true, Bool.false_or, Bool.or_false, Bool.not_true, Bool.not_false, if_true, if_false, Bool.false_eq_true, reduceIte, asD_t, get_t, hq, eq_self, decide_true]
        · simp (disch := (first | trivial | omega | (simp only [true_and, and_true, lim, List.length_cons, List.length_nil, List.length_map, List.length_append] <;> first | trivial | omega) | assumption)) only [asOwn, asOwnL, runB, evSs, evS, evE, evEs, evB, evIt, isV, isNo, bind_ok, bind_ex, guard_t, env0, mk_lst, mk_dct, mk_tup, mk_frz, mk_int, mk_bl, mk_str, mk_non, el_lst, el_dct, el_tup, el_frz, el_int, el_bl, el_str, el_non, new_own, new_top, new_pl, io_own, io_top, io_pl, asB_bl, asI_int, ent_top, ent_pl, fr_own, fr_top, fr_pl, pu_int, pu_bl, pu_str, pu_non, pu_tup, pu_lst, pu_nil, pu_cons, pe_lst', no_nil, no_cons, al_nil, al_cons, od_rt, od_nx, ofO_some, d_add, d_sub, d_mul, d_div, d_mod, d_cat, d_catT, c_eqI, c_neI, c_lt, c_le, c_gt, c_ge, List.map_cons, List.map_nil, List.length_cons, List.length_nil, List.getElem?_cons_zero, List.getElem?_cons_succ, List.set_cons_zero, List.set_cons_succ, List.cons_append, List.nil_append, List.append_nil, List.replicate, Nat.reduceAdd, Nat.reduceSub, Bool.true_and, Bool.and_true, Bool.false_and, Bool.and_false, Bool.true_or, Bool.or_true, Bool.false_or, Bool.or_false, Bool.not_true, Bool.not_false, if_true, if_false, Bool.false_eq_true, reduceIte, e2, mk_r, List.map_append]
      · have ho : okI w t k d = false := decide_eq_false hq
        have e1 : (some d).toList.filter (okI w t k) = [] := by simp [ho]
        rw [e1, List.map_nil, List.append_nil]
        refine seq_last (if_f (k := .pl true) ?_ seq_nil)
        simp (disch := (first | trivial | omega | (simp only [true_and, and_true, lim, List.length_cons, List.length_nil, List.length_map, List.length_append] <;> first | trivial | omega) | assumption)) only [asOwn, asOwnL, runB, evSs, evS, evE, evEs, evB, evIt, isV, isNo, bind_ok, bind_ex, guard_t, env0, mk_lst, mk_dct, mk_tup, mk_frz, mk_int, mk_bl, mk_str, mk_non, el_lst, el_dct, el_tup, el_frz, el_int, el_bl, el_str, el_non, new_own, new_top, new_pl, io_own, io_top, io_pl, asB_bl, asI_int, ent_top, ent_pl, fr_own, fr_top, fr_pl, pu_int, pu_bl, pu_str, pu_non, pu_tup, pu_lst, pu_nil, pu_cons, pe_lst', no_nil, no_cons, al_nil, al_cons, od_rt, od_nx, ofO_some, d_add, d_sub, d_mul, d_div, d_mod, d_cat, d_catT, c_eqI, c_neI, c_lt, c_le, c_gt, c_ge, List.map_cons, List.map_nil, List.length_cons, List.length_nil, List.getElem?_cons_zero, List.getElem?_cons_succ, List.set_cons_zero, List.set_cons_succ, List.cons_append, List.nil_append, List.append_nil, List.replicate, Nat.reduceAdd, Nat.reduceSub, Bool.true_and, Bool.and_true, Bool.false_and, Bool.and_false, Bool.true_or, Bool.or_true, Bool.false_or, Bool.or_false, Bool.not_true, Bool.not_false, if_true, if_false, Bool.false_eq_true, reduceIte, asD_t, get_t, hq, decide_false])
  refine ⟨s10', ?_⟩
  rw [e, List.length_map, List.take_length]
theorem ix_rowsP {S : Sig} {due : Nat} : True := trivial
/-- the rows of one part -/
theorem run_rows (S : Sig) (due : Nat) {w : Wk} (hw : w.ok) {t : List (Int × Int)} {br : List Int} {k : Nat} {p : Pt} (hp : w.parts[k]? = some p) {g : D} {rows : List (List Int)} (hr : ∀ r ∈ rows, r.length = w.inp + k) (hb : 5 * rows.length < 900000)
    (hd : ∀ (p : Pt) (ds : List Int), p.ok ds.length → S.call due [p.D, .lst (ds.map D.int), .int w.ring] = .ok (.int (p.val w.ring ds))) (s8 s9 s10 : Option (Tg × D)) :
    ∃ s8' s9' s10', evS S (.forr [8] (.sq (.v 4)) (.cons (.set 9 false (.lst (.cons (.call due (.cons (.ix (.ix (.v 0) (.ki 2)) (.v 5)) (.cons (.v 8) (.cons (.ix (.v 0) (.ki 0)) .nil)))) .nil))) (.cons (.iff (.cmp .In (.v 5) (.v 3)) (.cons (.set 9 false (.lrg (.ki 0) (.ix (.v 0) (.ki 0)))) .nil) .nil) (.cons (.forr [10] (.sq (.v 9)) (.cons (.iff (.cmp .Eq (.get2 (.v 2) (.v 6) (.v 10)) (.v 10)) (.cons (.app 7 (.bin .Add (.v 8) (.lst (.cons (.v 10) .nil)))) .nil) .nil) .nil)) .nil))))
      [some (.old, w.D), some (.old, g), some (.old, tD t), some (.old, bD br), some (.new, .lst (rows.map rD)), some (.new, .int k), some (.new, .int ((w.inp + k : Nat) : Int)), some (.own, .lst []), s8, s9, s10] =
      .ok (.nx [some (.old, w.D), some (.old, g), some (.old, tD t), some (.old, bD br), some (.new, .lst (rows.map rD)), some (.new, .int k), some (.new, .int ((w.inp + k : Nat) : Int)), some (.own, .lst ((stepI w t br k p rows).map rD)), s8', s9', s10']) := by
  have i6 := hw.i6
  have r2 := hw.r2
  have r5 := hw.r5
  have hkl : k < w.parts.length := (List.getElem?_eq_some_iff.mp hp).1
  have p10 := hw.p10
  obtain ⟨ρ', e, s8', s9', s10', rfl⟩ := for_sqP (S := S) (a := .v 4) (ts := [8]) (body := (.cons (.set 9 false (.lst (.cons (.call due (.cons (.ix (.ix (.v 0) (.ki 2)) (.v 5)) (.cons (.v 8) (.cons (.ix (.v 0) (.ki 0)) .nil)))) .nil))) (.cons (.iff (.cmp .In (.v 5) (.v 3)) (.cons (.set 9 false (.lrg (.ki 0) (.ix (.v 0) (.ki 0)))) .nil) .nil) (.cons (.forr [10] (.sq (.v 9)) (.cons (.iff (.cmp .Eq (.get2 (.v 2) (.v 6) (.v 10)) (.v 10)) (.cons (.app 7 (.bin .Add (.v 8) (.lst (.cons (.v 10) .nil)))) .nil) .nil) .nil)) .nil)))) (kd := .pl true) (x := .lst (rows.map rD)) (xs := rows.map rD)
    (ρ := [some (.old, w.D), some (.old, g), some (.old, tD t), some (.old, bD br), some (.new, .lst (rows.map rD)), some (.new, .int k), some (.new, .int ((w.inp + k : Nat) : Int)), some (.own, .lst []), s8, s9, s10])
    (fun i ρ => ∃ s8 s9 s10, ρ = [some (.old, w.D), some (.old, g), some (.old, tD t), some (.old, bD br), some (.new, .lst (rows.map rD)), some (.new, .int k), some (.new, .int ((w.inp + k : Nat) : Int)), some (.own, .lst ((stepI w t br k p (rows.take i)).map rD)), s8, s9, s10])
    (by simp (disch := (first | trivial | omega | (simp only [true_and, and_true, lim, List.length_cons, List.length_nil, List.length_map, List.length_append] <;> first | trivial | omega) | assumption)) only [asOwn, asOwnL, runB, evSs, evS, evE, evEs, evB, evIt, isV, isNo, bind_ok, bind_ex, guard_t, env0, mk_lst, mk_dct, mk_tup, mk_frz, mk_int, mk_bl, mk_str, mk_non, el_lst, el_dct, el_tup, el_frz, el_int, el_bl, el_str, el_non, new_own, new_top, new_pl, io_own, io_top, io_pl, asB_bl, asI_int, ent_top, ent_pl, fr_own, fr_top, fr_pl, pu_int, pu_bl, pu_str, pu_non, pu_tup, pu_lst, pu_nil, pu_cons, pe_lst', no_nil, no_cons, al_nil, al_cons, od_rt, od_nx, ofO_some, d_add, d_sub, d_mul, d_div, d_mod, d_cat, d_catT, c_eqI, c_neI, c_lt, c_le, c_gt, c_ge, List.map_cons, List.map_nil, List.length_cons, List.length_nil, List.getElem?_cons_zero, List.getElem?_cons_succ, List.set_cons_zero, List.set_cons_succ, List.cons_append, List.nil_append, List.append_nil, List.replicate, Nat.reduceAdd, Nat.reduceSub, Bool.true_and, Bool.and_true, Bool.false_and, Bool.and_false, Bool.true_or, Bool.or_true, Bool.false_or, Bool.or_false, Bool.not_true, Bool.not_false, if_true, if_false, Bool.false_eq_true, reduceIte]) rfl rfl ⟨s8, s9, s10, by simp [stepI]⟩ (by
    rintro j y ρ hj ⟨s8, s9, s10, rfl⟩
    rw [List.getElem?_map] at hj
    cases hc : rows[j]? with
    | none => rw [hc] at hj; cases hj
    | some r =>
      rw [hc] at hj
      cases hj
      have hjl : j < rows.length := (List.getElem?_eq_some_iff.mp hc).1
      have hrl := hr r (List.mem_of_getElem? hc)
      have pok := hw.at_ k p hp
      have e1 := hd p r (by rw [hrl]; exact pok)
      have e2 := ix_pts hp
      rw [step_take w t br k p hc]
      have hal : (stepI w t br k p (rows.take j)).length + (choicesI w.ring br k p r).length < 1000000 := by
        have h1 := step_len r5 t br k p (rows.take j)
        have h2 := choices_len r5 br k p r
        rw [List.length_take] at h1
        omega
      obtain ⟨s10', e3⟩ := run_digits S (w := w) (t := t) (k := k) (r := r) (cs := choicesI w.ring br k p r) (acc := stepI w t br k p (rows.take j)) (s5 := .new) (g := g) (br := bD br) (rows := .lst (rows.map rD)) (by omega) hal s10
      refine ⟨_, ?_, some (.new, rD r), some (.new, .lst ((choicesI w.ring br k p r).map D.int)), s10', rfl⟩
      show M.bind (bindT true (rD r) _ [8]) _ = _
      rw [bindT_1, bind_ok, setE_rD]
      apply seq_step
      · have e1 : S.call due [p.D, rD r, .int w.ring] = .ok (.int (p.val w.ring r)) := e1
        simp (disch := (first | trivial | omega | (simp only [true_and, and_true, lim, List.length_cons, List.length_nil, List.length_map, List.length_append] <;> first | trivial | omega) | assumption)) only [asOwn, asOwnL, runB, evSs, evS, evE, evEs, evB, evIt, isV, isNo, bind_ok, bind_ex, guard_t, env0, mk_lst, mk_dct, mk_tup, mk_frz, mk_int, mk_bl, mk_str, mk_non, el_lst, el_dct, el_tup, el_frz, el_int, el_bl, el_str, el_non, new_own, new_top, new_pl, io_own, io_top, io_pl, asB_bl, asI_int, ent_top, ent_pl, fr_own, fr_top, fr_pl, pu_int, pu_bl, pu_str, pu_non, pu_tup, pu_lst, pu_nil, pu_cons, pe_lst', no_nil, no_cons, al_nil, al_cons, od_rt, od_nx, ofO_some, d_add, d_sub, d_mul, d_div, d_mod, d_cat, d_catT, c_eqI, c_neI, c_lt, c_le, c_gt, c_ge, List.map_cons, List.map_nil, List.length_cons, List.length_nil, List.getElem?_cons_zero, List.getElem?_cons_succ, List.set_cons_zero, List.set_cons_succ, List.cons_append, List.nil_append, List.append_nil, List.replicate, Nat.reduceAdd, Nat.reduceSub, Bool.true_and, Bool.and_true, Bool.false_and, Bool.and_false, Bool.true_or, Bool.or_true, Bool.false_or, Bool.or_false, Bool.not_true, Bool.not_false, if_true, if_false, Bool.false_eq_true, reduceIte, ixw2, e2, el_pt, ixw0, e1]
        exact rfl
      apply seq_step (ρ' := [some (.old, w.D), some (.old, g), some (.old, tD t), some (.old, bD br), some (.new, .lst (rows.map rD)), some (.new, .int k), some (.new, .int ((w.inp + k : Nat) : Int)), some (.own, .lst ((stepI w t br k p (rows.take j)).map rD)), some (.new, rD r), some (.new, .lst ((choicesI w.ring br k p r).map D.int)), s10])
      · have e4 := in_b br k
        by_cases hk : (k : Int) ∈ br
        · rw [decide_eq_true hk] at e4
          have e5 : choicesI w.ring br k p r = rangeI w.ring := by unfold choicesI; rw [if_pos hk]
          rw [e5]
          refine if_t (k := .pl true) ?_ (seq_last ?_)
          · simp (disch := (first | trivial | omega | (simp only [true_and, and_true, lim, List.length_cons, List.length_nil, List.length_map, List.length_append] <;> first | trivial | omega) | assumption)) only [asOwn, asOwnL, runB, evSs, evS, evE, evEs, evB, evIt, isV, isNo, bind_ok, bind_ex, guard_t, env0, mk_lst, mk_dct, mk_tup, mk_frz, mk_int, mk_bl, mk_str, mk_non, el_lst, el_dct, el_tup, el_frz, el_int, el_bl, el_str, el_non, new_own, new_top, new_pl, io_own, io_top, io_pl, asB_bl, asI_int, ent_top, ent_pl, fr_own, fr_top, fr_pl, pu_int, pu_bl, pu_str, pu_non, pu_tup, pu_lst, pu_nil, pu_cons, pe_lst', no_nil, no_cons, al_nil, al_cons, od_rt, od_nx, ofO_some, d_add, d_sub, d_mul, d_div, d_mod, d_cat, d_catT, c_eqI, c_neI, c_lt, c_le, c_gt, c_ge, List.map_cons, List.map_nil, List.length_cons, List.length_nil, List.getElem?_cons_zero, List.getElem?_cons_succ, List.set_cons_zero, List.set_cons_succ, List.cons_append, List.nil_append, List.append_nil, List.replicate, Nat.reduceAdd, Nat.reduceSub, Bool.true_and, Bool.and_true, Bool.false_and, Bool.and_false, Bool.true_or, Bool.or_true, Bool.false_or, Bool.or_false, Bool.not_true, Bool.not_false, if_true, if_false, Bool.false_eq_true, reduceIte, e4]
          · simp only [evS, isV]
            rw [lrg_ev (k1 := .pl true) (k2 := .pl true) (j := w.ring) (by simp (disch := (first | trivial | omega | (simp only [true_and, and_true, lim, List.length_cons, List.length_nil, List.length_map, List.length_append] <;> first | trivial | omega) | assumption)) only [asOwn, asOwnL, runB, evSs, evS, evE, evEs, evB, evIt, isV, isNo, bind_ok, bind_ex, guard_t, env0, mk_lst, mk_dct, mk_tup, mk_frz, mk_int, mk_bl, mk_str, mk_non, el_lst, el_dct, el_tup, el_frz, el_int, el_bl, el_str, el_non, new_own, new_top, new_pl, io_own, io_top, io_pl, asB_bl, asI_int, ent_top, ent_pl, fr_own, fr_top, fr_pl, pu_int, pu_bl, pu_str, pu_non, pu_tup, pu_lst, pu_nil, pu_cons, pe_lst', no_nil, no_cons, al_nil, al_cons, od_rt, od_nx, ofO_some, d_add, d_sub, d_mul, d_div, d_mod, d_cat, d_catT, c_eqI, c_neI, c_lt, c_le, c_gt, c_ge, List.map_cons, List.map_nil, List.length_cons, List.length_nil, List.getElem?_cons_zero, List.getElem?_cons_succ, List.set_cons_zero, List.set_cons_succ, List.cons_append, List.nil_append, List.append_nil, List.replicate, Nat.reduceAdd, Nat.reduceSub, Bool.true_and, Bool.and_true, Bool.false_and, Bool.and_false, Bool.true_or, Bool.or_true, Bool.false_or, Bool.or_false, Bool.not_true, Bool.not_false, if_true, if_false, Bool.false_eq_true, reduceIte]) (by simp (disch := (first | trivial | omega | (simp only [true_and, and_true, lim, List.length_cons, List.length_nil, List.length_map, List.length_append] <;> first | trivial | omega) | assumption)) only [asOwn, asOwnL, runB, evSs, evS, evE, evEs, evB, evIt, isV, isNo, bind_ok, bind_ex, guard_t, env0, mk_lst, mk_dct, mk_tup, mk_frz, mk_int, mk_bl, mk_str, mk_non, el_lst, el_dct, el_tup, el_frz, el_int, el_bl, el_str, el_non, new_own, new_top, new_pl, io_own, io_top, io_pl, asB_bl, asI_int, ent_top, ent_pl, fr_own, fr_top, fr_pl, pu_int, pu_bl, pu_str, pu_non, pu_tup, pu_lst, pu_nil, pu_cons, pe_lst', no_nil, no_cons, al_nil, al_cons, od_rt, od_nx, ofO_some, d_add, d_sub, d_mul, d_div, d_mod, d_cat, d_catT, c_eqI, c_neI, c_lt, c_le, c_gt, c_ge, List.map_cons, List.map_nil, List.length_cons, List.length_nil, List.getElem?_cons_zero, List.getElem?_cons_succ, List.set_cons_zero, List.set_cons_succ, List.cons_append, List.nil_append, List.append_nil, List.replicate, Nat.reduceAdd, Nat.reduceSub, Bool.true_and, Bool.and_true, Bool.false_and, Bool.and_false, Bool.true_or, Bool.or_true, Bool.false_or, Bool.or_false, Bool.not_true, Bool.not_false, if_true, if_false, Bool.false_eq_true, reduceIte, ixw0]) (by omega)]
            simp (disch := (first | trivial | omega | (simp only [true_and, and_true, lim, List.length_cons, List.length_nil, List.length_map, List.length_append] <;> first | trivial | omega) | assumption)) only [asOwn, asOwnL, runB, evSs, evS, evE, evEs, evB, evIt, isV, isNo, bind_ok, bind_ex, guard_t, env0, mk_lst, mk_dct, mk_tup, mk_frz, mk_int, mk_bl, mk_str, mk_non, el_lst, el_dct, el_tup, el_frz, el_int, el_bl, el_str, el_non, new_own, new_top, new_pl, io_own, io_top, io_pl, asB_bl, asI_int, ent_top, ent_pl, fr_own, fr_top, fr_pl, pu_int, pu_bl, pu_str, pu_non, pu_tup, pu_lst, pu_nil, pu_cons, pe_lst', no_nil, no_cons, al_nil, al_cons, od_rt, od_nx, ofO_some, d_add, d_sub, d_mul, d_div, d_mod, d_cat, d_catT, c_eqI, c_neI, c_lt, c_le, c_gt, c_ge, List.map_cons, List.map_nil, List.length_cons, List.length_nil, List.getElem?_cons_zero, List.getElem?_cons_succ, List.set_cons_zero, List.set_cons_succ, List.cons_append, List.nil_append, List.append_nil, List.replicate, Nat.reduceAdd, Nat.reduceSub, Bool.true_and, Bool.and_true, Bool.false_and, Bool.and_false, Bool.true_or, Bool.or_true, Bool.false_or, Bool.or_false, Bool.not_true, Bool.not_false, if_true, if_false, Bool.false_eq_true, reduceIte]
        · rw [decide_eq_false hk] at e4
          have e5 : choicesI w.ring br k p r = [p.val w.ring r] := by unfold choicesI; rw [if_neg hk]
          rw [e5]
          refine if_f (k := .pl true) ?_ seq_nil
          simp (disch := (first | trivial | omega | (simp only [true_and, and_true, lim, List.length_cons, List.length_nil, List.length_map, List.length_append] <;> first | trivial | omega) | assumption)) only [asOwn, asOwnL, runB, evSs, evS, evE, evEs, evB, evIt, isV, isNo, bind_ok, bind_ex, guard_t, env0, mk_lst, mk_dct, mk_tup, mk_frz, mk_int, mk_bl, mk_str, mk_non, el_lst, el_dct, el_tup, el_frz, el_int, el_bl, el_str, el_non, new_own, new_top, new_pl, io_own, io_top, io_pl, asB_bl, asI_int, ent_top, ent_pl, fr_own, fr_top, fr_pl, pu_int, pu_bl, pu_str, pu_non, pu_tup, pu_lst, pu_nil, pu_cons, pe_lst', no_nil, no_cons, al_nil, al_cons, od_rt, od_nx, ofO_some, d_add, d_sub, d_mul, d_div, d_mod, d_cat, d_catT, c_eqI, c_neI, c_lt, c_le, c_gt, c_ge, List.map_cons, List.map_nil, List.length_cons, List.length_nil, List.getElem?_cons_zero, List.getElem?_cons_succ, List.set_cons_zero, List.set_cons_succ, List.cons_append, List.nil_append, List.append_nil, List.replicate, Nat.reduceAdd, Nat.reduceSub, Bool.true_and, Bool.and_true, Bool.false_and, Bool.and_false, Bool.true_or, Bool.or_true, Bool.false_or, Bool.or_false, Bool.not_true, Bool.not_false, if_true, if_false, Bool.false_eq_true, reduceIte, e4]
      refine seq_last ?_
      exact e3)
  refine ⟨s8', s9', s10', ?_⟩
  rw [e, List.length_map, List.take_length]
theorem allI_take (w : Wk) (t : List (Int × Int)) (br : List Int) : ∀ (ps : List Pt) (k j : Nat) (p : Pt) (rows : List (List Int)), ps[j]? = some p → allI w t br k (ps.take (j + 1)) rows = stepI w t br (k + j) p (allI w t br k (ps.take j) rows)
  | [], _, _, _, _, h => by simp at h
  | q :: ps, k, 0, p, rows, h => by
    simp at h
    subst h
    rfl
  | q :: ps, k, j + 1, p, rows, h => by
    have ih := allI_take w t br ps (k + 1) j p (stepI w t br k q rows) (by simpa using h)
    rw [show k + 1 + j = k + (j + 1) by omega] at ih
    exact ih
theorem all_len {w : Wk} (h : w.ring ≤ 5) (t : List (Int × Int)) (br : List Int) : ∀ (ps : List Pt) (k : Nat) (rows : List (List Int)), (allI w t br k ps rows).length ≤ 5 ^ ps.length * rows.length
  | [], _, rows => by simp [allI]
  | p :: ps, k, rows => by
    have h1 := all_len h t br ps (k + 1) (stepI w t br k p rows)
    have h2 := step_len h t br k p rows
    show (allI w t br (k + 1) ps (stepI w t br k p rows)).length ≤ _
    refine Nat.le_trans h1 ?_
    rw [List.length_cons, Nat.pow_succ, Nat.mul_assoc]
    exact Nat.mul_le_mul_left _ h2
theorem all_mem {w : Wk} {t : List (Int × Int)} {br : List Int} : ∀ {ps : List Pt} {k : Nat} {rows : List (List Int)} {n : Nat}, (∀ r ∈ rows, r.length = n) → ∀ r ∈ allI w t br k ps rows, r.length = n + ps.length
  | [], _, _, _, h => h
  | p :: ps, k, rows, n, h => fun r hr => by
    have := all_mem (ps := ps) (step_mem (w := w) (t := t) (br := br) (k := k) (p := p) h) r hr
    rw [this, List.length_cons]
    omega
theorem run_all (S : Sig) (due : Nat) {w : Wk} (hw : w.ok) (h7 : w.parts.length ≤ 7) {t : List (Int × Int)} {br : List Int} {gs : List Int} (hl : gs.length = w.inp)
    (hd : ∀ (p : Pt) (ds : List Int), p.ok ds.length → S.call due [p.D, .lst (ds.map D.int), .int w.ring] = .ok (.int (p.val w.ring ds))) :
    runB S (lallF due) [w.D, .tup (gs.map D.int), tD t, bD br] = .ok (.lst ((allI w t br 0 w.parts [gs]).map rD)) := by
  have i6 := hw.i6
  have r5 := hw.r5
  unfold lallF
  refine run_rt ?_
  have hpg := pureL_ints gs
  (apply seq_step; focus (simp (disch := (first | trivial | omega | (simp only [true_and, and_true, lim, List.length_cons, List.length_nil, List.length_map, List.length_append] <;> first | trivial | omega) | assumption)) only [asOwn, asOwnL, runB, evSs, evS, evE, evEs, evB, evIt, isV, isNo, bind_ok, bind_ex, guard_t, env0, mk_lst, mk_dct, mk_tup, mk_frz, mk_int, mk_bl, mk_str, mk_non, el_lst, el_dct, el_tup, el_frz, el_int, el_bl, el_str, el_non, new_own, new_top, new_pl, io_own, io_top, io_pl, asB_bl, asI_int, ent_top, ent_pl, fr_own, fr_top, fr_pl, pu_int, pu_bl, pu_str, pu_non, pu_tup, pu_lst, pu_nil, pu_cons, pe_lst', no_nil, no_cons, al_nil, al_cons, od_rt, od_nx, ofO_some, d_add, d_sub, d_mul, d_div, d_mod, d_cat, d_catT, c_eqI, c_neI, c_lt, c_le, c_gt, c_ge, List.map_cons, List.map_nil, List.length_cons, List.length_nil, List.getElem?_cons_zero, List.getElem?_cons_succ, List.set_cons_zero, List.set_cons_succ, List.cons_append, List.nil_append, List.append_nil, List.replicate, Nat.reduceAdd, Nat.reduceSub, Bool.true_and, Bool.and_true, Bool.false_and, Bool.and_false, Bool.true_or, Bool.or_true, Bool.false_or, Bool.or_false, Bool.not_true, Bool.not_false, if_true, if_false, Bool.false_eq_true, reduceIte, list_tup]; exact rfl))
  refine seq_P (for_r1P (n := w.parts.length) (kd := .pl true) (fun i ρ => ∃ s5 s6 s7 s8 s9 s10, ρ = [some (.old, w.D), some (.old, .tup (gs.map D.int)), some (.old, tD t), some (.old, bD br), some (.new, .lst ((allI w t br 0 (w.parts.take i) [gs]).map rD)), s5, s6, s7, s8, s9, s10]) (by simp (disch := (first | trivial | omega | (simp only [true_and, and_true, lim, List.length_cons, List.length_nil, List.length_map, List.length_append] <;> first | trivial | omega) | assumption)) only [asOwn, asOwnL, runB, evSs, evS, evE, evEs, evB, evIt, isV, isNo, bind_ok, bind_ex, guard_t, env0, mk_lst, mk_dct, mk_tup, mk_frz, mk_int, mk_bl, mk_str, mk_non, el_lst, el_dct, el_tup, el_frz, el_int, el_bl, el_str, el_non, new_own, new_top, new_pl, io_own, io_top, io_pl, asB_bl, asI_int, ent_top, ent_pl, fr_own, fr_top, fr_pl, pu_int, pu_bl, pu_str, pu_non, pu_tup, pu_lst, pu_nil, pu_cons, pe_lst', no_nil, no_cons, al_nil, al_cons, od_rt, od_nx, ofO_some, d_add, d_sub, d_mul, d_div, d_mod, d_cat, d_catT, c_eqI, c_neI, c_lt, c_le, c_gt, c_ge, List.map_cons, List.map_nil, List.length_cons, List.length_nil, List.getElem?_cons_zero, List.getElem?_cons_succ, List.set_cons_zero, List.set_cons_succ, List.cons_append, List.nil_append, List.append_nil, List.replicate, Nat.reduceAdd, Nat.reduceSub, Bool.true_and, Bool.and_true, Bool.false_and, Bool.and_false, Bool.true_or, Bool.or_true, Bool.false_or, Bool.or_false, Bool.not_true, Bool.not_false, if_true, if_false, Bool.false_eq_true, reduceIte, ixw2, len_lst, List.length_map]) (by omega) ⟨none, none, none, none, none, none, ?_⟩ ?_) ?_
  · rw [hpg]; rfl
  · rintro j ρ hj ⟨s5, s6, s7, s8, s9, s10, rfl⟩
    obtain ⟨p, hp⟩ : ∃ p, w.parts[j]? = some p := ⟨w.parts[j], by simp [hj]⟩
    have e1 := allI_take w t br w.parts 0 j p [gs] hp
    rw [Nat.zero_add] at e1
    rw [e1]
    have hmem : ∀ r ∈ allI w t br 0 (w.parts.take j) [gs], r.length = w.inp + j := fun r hr => by
      have := all_mem (ps := w.parts.take j) (k := 0) (rows := [gs]) (n := w.inp) (fun r hr => by simp at hr; subst hr; exact hl) r hr
      rw [this, List.length_take]
      omega
    have hlen : 5 * (allI w t br 0 (w.parts.take j) [gs]).length < 900000 := by
      have := all_len r5 t br (w.parts.take j) 0 [gs]
      rw [List.length_take, show min j w.parts.length = j by omega] at this
      have h2 : 5 ^ j ≤ 5 ^ 6 := Nat.pow_le_pow_right (by decide) (by omega)
      simp at this
      omega
    generalize allI w t br 0 (w.parts.take j) [gs] = rows at hmem hlen
    have eb : (w.inp : Int) + (j : Int) = ((w.inp + j : Nat) : Int) := by omega
    obtain ⟨s8', s9', s10', e2⟩ := run_rows S due hw hp (t := t) (br := br) (g := .tup (gs.map D.int)) hmem hlen hd s8 s9 s10
    refine ⟨_, ?_, some (.new, .int j), some (.new, .int ((w.inp + j : Nat) : Int)), some (.new, .lst ((stepI w t br j p rows).map rD)), s8', s9', s10', rfl⟩
    rw [bindT_1, bind_ok, setE_int]
    apply seq_step
    · simp (disch := (first | trivial | omega | (simp only [true_and, and_true, lim, List.length_cons, List.length_nil, List.length_map, List.length_append] <;> first | trivial | omega) | assumption)) only [asOwn, asOwnL, runB, evSs, evS, evE, evEs, evB, evIt, isV, isNo, bind_ok, bind_ex, guard_t, env0, mk_lst, mk_dct, mk_tup, mk_frz, mk_int, mk_bl, mk_str, mk_non, el_lst, el_dct, el_tup, el_frz, el_int, el_bl, el_str, el_non, new_own, new_top, new_pl, io_own, io_top, io_pl, asB_bl, asI_int, ent_top, ent_pl, fr_own, fr_top, fr_pl, pu_int, pu_bl, pu_str, pu_non, pu_tup, pu_lst, pu_nil, pu_cons, pe_lst', no_nil, no_cons, al_nil, al_cons, od_rt, od_nx, ofO_some, d_add, d_sub, d_mul, d_div, d_mod, d_cat, d_catT, c_eqI, c_neI, c_lt, c_le, c_gt, c_ge, List.map_cons, List.map_nil, List.length_cons, List.length_nil, List.getElem?_cons_zero, List.getElem?_cons_succ, List.set_cons_zero, List.set_cons_succ, List.cons_append, List.nil_append, List.append_nil, List.replicate, Nat.reduceAdd, Nat.reduceSub, Bool.true_and, Bool.and_true, Bool.false_and, Bool.and_false, Bool.true_or, Bool.or_true, Bool.false_or, Bool.or_false, Bool.not_true, Bool.not_false, if_true, if_false, Bool.false_eq_true, reduceIte, ixw1, eb]
      exact rfl
    apply seq_step
    · simp (disch := (first | trivial | omega | (simp only [true_and, and_true, lim, List.length_cons, List.length_nil, List.length_map, List.length_append] <;> first | trivial | omega) | assumption)) only [asOwn, asOwnL, runB, evSs, evS, evE, evEs, evB, evIt, isV, isNo, bind_ok, bind_ex, guard_t, env0, mk_lst, mk_dct, mk_tup, mk_frz, mk_int, mk_bl, mk_str, mk_non, el_lst, el_dct, el_tup, el_frz, el_int, el_bl, el_str, el_non, new_own, new_top, new_pl, io_own, io_top, io_pl, asB_bl, asI_int, ent_top, ent_pl, fr_own, fr_top, fr_pl, pu_int, pu_bl, pu_str, pu_non, pu_tup, pu_lst, pu_nil, pu_cons, pe_lst', no_nil, no_cons, al_nil, al_cons, od_rt, od_nx, ofO_some, d_add, d_sub, d_mul, d_div, d_mod, d_cat, d_catT, c_eqI, c_neI, c_lt, c_le, c_gt, c_ge, List.map_cons, List.map_nil, List.length_cons, List.length_nil, List.getElem?_cons_zero, List.getElem?_cons_succ, List.set_cons_zero, List.set_cons_succ, List.cons_append, List.nil_append, List.append_nil, List.replicate, Nat.reduceAdd, Nat.reduceSub, Bool.true_and, Bool.and_true, Bool.false_and, Bool.and_false, Bool.true_or, Bool.or_true, Bool.false_or, Bool.or_false, Bool.not_true, Bool.not_false, if_true, if_false, Bool.false_eq_true, reduceIte]
      exact rfl
    apply seq_step
    · exact e2
    refine seq_last ?_
    simp (disch := (first | trivial | omega | (simp only [true_and, and_true, lim, List.length_cons, List.length_nil, List.length_map, List.length_append] <;> first | trivial | omega) | assumption)) only [asOwn, asOwnL, runB, evSs, evS, evE, evEs, evB, evIt, isV, isNo, bind_ok, bind_ex, guard_t, env0, mk_lst, mk_dct, mk_tup, mk_frz, mk_int, mk_bl, mk_str, mk_non, el_lst, el_dct, el_tup, el_frz, el_int, el_bl, el_str, el_non, new_own, new_top, new_pl, io_own, io_top, io_pl, asB_bl, asI_int, ent_top, ent_pl, fr_own, fr_top, fr_pl, pu_int, pu_bl, pu_str, pu_non, pu_tup, pu_lst, pu_nil, pu_cons, pe_lst', no_nil, no_cons, al_nil, al_cons, od_rt, od_nx, ofO_some, d_add, d_sub, d_mul, d_div, d_mod, d_cat, d_catT, c_eqI, c_neI, c_lt, c_le, c_gt, c_ge, List.map_cons, List.map_nil, List.length_cons, List.length_nil, List.getElem?_cons_zero, List.getElem?_cons_succ, List.set_cons_zero, List.set_cons_succ, List.cons_append, List.nil_append, List.append_nil, List.replicate, Nat.reduceAdd, Nat.reduceSub, Bool.true_and, Bool.and_true, Bool.false_and, Bool.and_false, Bool.true_or, Bool.or_true, Bool.false_or, Bool.or_false, Bool.not_true, Bool.not_false, if_true, if_false, Bool.false_eq_true, reduceIte]
  rintro ρ ⟨s5, s6, s7, s8, s9, s10, rfl⟩
  apply seq_rt
  rw [List.take_length]
  simp (disch := (first | trivial | omega | (simp only [true_and, and_true, lim, List.length_cons, List.length_nil, List.length_map, List.length_append] <;> first | trivial | omega) | assumption)) only [asOwn, asOwnL, runB, evSs, evS, evE, evEs, evB, evIt, isV, isNo, bind_ok, bind_ex, guard_t, env0, mk_lst, mk_dct, mk_tup, mk_frz, mk_int, mk_bl, mk_str, mk_non, el_lst, el_dct, el_tup, el_frz, el_int, el_bl, el_str, el_non, new_own, new_top, new_pl, io_own, io_top, io_pl, asB_bl, asI_int, ent_top, ent_pl, fr_own, fr_top, fr_pl, pu_int, pu_bl, pu_str, pu_non, pu_tup, pu_lst, pu_nil, pu_cons, pe_lst', no_nil, no_cons, al_nil, al_cons, od_rt, od_nx, ofO_some, d_add, d_sub, d_mul, d_div, d_mod, d_cat, d_catT, c_eqI, c_neI, c_lt, c_le, c_gt, c_ge, List.map_cons, List.map_nil, List.length_cons, List.length_nil, List.getElem?_cons_zero, List.getElem?_cons_succ, List.set_cons_zero, List.set_cons_succ, List.cons_append, List.nil_append, List.append_nil, List.replicate, Nat.reduceAdd, Nat.reduceSub, Bool.true_and, Bool.and_true, Bool.false_and, Bool.and_false, Bool.true_or, Bool.or_true, Bool.false_or, Bool.or_false, Bool.not_true, Bool.not_false, if_true, if_false, Bool.false_eq_true, reduceIte]
end PyV
namespace PyV
open PySem L2
/-! ### the law's helpers -/
def lrunF (due : Nat) : Fn := ⟨3, 5, (.cons (.set 3 true (.bl .list (.cons (.v 1) .nil))) (.cons (.forr [4] (.r1 (.bl .len (.cons (.ix (.v 0) (.ki 2)) .nil))) (.cons (.app 3 (.get2 (.v 2) (.v 4) (.call due (.cons (.ix (.ix (.v 0) (.ki 2)) (.v 4)) (.cons (.v 3) (.cons (.ix (.v 0) (.ki 0)) .nil)))))) .nil)) (.cons (.ret (.v 3)) .nil)))⟩
theorem run_lrun (S : Sig) (due : Nat) {w : Wk} (hw : w.ok) {gs : List Int} (hl : gs.length = w.inp) (t : List (Int × Int))
    (hd : ∀ (p : Pt) (ds : List Int), p.ok ds.length → S.call due [p.D, .lst (ds.map D.int), .int w.ring] = .ok (.int (p.val w.ring ds))) :
    runB S (lrunF due) [w.D, .tup (gs.map D.int), tD t] = .ok (.lst ((ranI w.ring t 0 w.parts gs).map D.int)) := by
  have i6 := hw.i6
  have p10 := hw.p10
  unfold lrunF
  refine run_rt ?_
  have hp := pureL_ints gs
  (apply seq_step; focus (simp (disch := (first | trivial | omega | (simp only [true_and, and_true, lim, List.length_cons, List.length_nil, List.length_map, List.length_append] <;> first | trivial | omega) | assumption)) only [asOwn, asOwnL, runB, evSs, evS, evE, evEs, evB, evIt, isV, isNo, bind_ok, bind_ex, guard_t, env0, mk_lst, mk_dct, mk_tup, mk_frz, mk_int, mk_bl, mk_str, mk_non, el_lst, el_dct, el_tup, el_frz, el_int, el_bl, el_str, el_non, new_own, new_top, new_pl, io_own, io_top, io_pl, asB_bl, asI_int, ent_top, ent_pl, fr_own, fr_top, fr_pl, pu_int, pu_bl, pu_str, pu_non, pu_tup, pu_lst, pu_nil, pu_cons, pe_lst', no_nil, no_cons, al_nil, al_cons, od_rt, od_nx, ofO_some, d_add, d_sub, d_mul, d_div, d_mod, d_cat, d_catT, c_eqI, c_neI, c_lt, c_le, c_gt, c_ge, List.map_cons, List.map_nil, List.length_cons, List.length_nil, List.getElem?_cons_zero, List.getElem?_cons_succ, List.set_cons_zero, List.set_cons_succ, List.cons_append, List.nil_append, List.append_nil, List.replicate, Nat.reduceAdd, Nat.reduceSub, Bool.true_and, Bool.and_true, Bool.false_and, Bool.and_false, Bool.true_or, Bool.or_true, Bool.false_or, Bool.or_false, Bool.not_true, Bool.not_false, if_true, if_false, Bool.false_eq_true, reduceIte, list_tup, hp]; exact rfl))
  refine seq_P (for_r1P (n := w.parts.length) (kd := .pl true) (fun i ρ => ∃ s4, ρ = [some (.old, w.D), some (.old, .tup (gs.map D.int)), some (.old, tD t), some (.own, .lst ((ranI w.ring t 0 (w.parts.take i) gs).map D.int)), s4]) (by simp (disch := (first | trivial | omega | (simp only [true_and, and_true, lim, List.length_cons, List.length_nil, List.length_map, List.length_append] <;> first | trivial | omega) | assumption)) only [asOwn, asOwnL, runB, evSs, evS, evE, evEs, evB, evIt, isV, isNo, bind_ok, bind_ex, guard_t, env0, mk_lst, mk_dct, mk_tup, mk_frz, mk_int, mk_bl, mk_str, mk_non, el_lst, el_dct, el_tup, el_frz, el_int, el_bl, el_str, el_non, new_own, new_top, new_pl, io_own, io_top, io_pl, asB_bl, asI_int, ent_top, ent_pl, fr_own, fr_top, fr_pl, pu_int, pu_bl, pu_str, pu_non, pu_tup, pu_lst, pu_nil, pu_cons, pe_lst', no_nil, no_cons, al_nil, al_cons, od_rt, od_nx, ofO_some, d_add, d_sub, d_mul, d_div, d_mod, d_cat, d_catT, c_eqI, c_neI, c_lt, c_le, c_gt, c_ge, List.map_cons, List.map_nil, List.length_cons, List.length_nil, List.getElem?_cons_zero, List.getElem?_cons_succ, List.set_cons_zero, List.set_cons_succ, List.cons_append, List.nil_append, List.append_nil, List.replicate, Nat.reduceAdd, Nat.reduceSub, Bool.true_and, Bool.and_true, Bool.false_and, Bool.and_false, Bool.true_or, Bool.or_true, Bool.false_or, Bool.or_false, Bool.not_true, Bool.not_false, if_true, if_false, Bool.false_eq_true, reduceIte, ixw2, len_lst, List.length_map]) (by omega) ⟨none, rfl⟩ ?_) ?_
  · rintro j ρ hj ⟨s4, rfl⟩
    obtain ⟨p, hq⟩ : ∃ p, w.parts[j]? = some p := ⟨w.parts[j], by simp [hj]⟩
    have hlen : (ranI w.ring t 0 (w.parts.take j) gs).length = w.inp + j := by rw [ranI_len, List.length_take, hl]; omega
    have pok : p.ok (ranI w.ring t 0 (w.parts.take j) gs).length := by rw [hlen]; exact hw.at_ j p hq
    have e1 := hd p _ pok
    have e2 := ix_pts hq
    rw [ranI_take w.ring t hq, List.map_append]
    unfold ruleI
    refine ⟨_, ?_, some (.new, .int j), rfl⟩
    rw [bindT_1, bind_ok, setE_int]
    refine seq_last ?_
    simp (disch := (first | trivial | omega | (simp only [true_and, and_true, lim, List.length_cons, List.length_nil, List.length_map, List.length_append] <;> first | trivial | omega) | assumption)) only [asOwn, asOwnL, runB, evSs, evS, evE, evEs, evB, evIt, isV, isNo, bind_ok, bind_ex, guard_t, env0, mk_lst, mk_dct, mk_tup, mk_frz, mk_int, mk_bl, mk_str, mk_non, el_lst, el_dct, el_tup, el_frz, el_int, el_bl, el_str, el_non, new_own, new_top, new_pl, io_own, io_top, io_pl, asB_bl, asI_int, ent_top, ent_pl, fr_own, fr_top, fr_pl, pu_int, pu_bl, pu_str, pu_non, pu_tup, pu_lst, pu_nil, pu_cons, pe_lst', no_nil, no_cons, al_nil, al_cons, od_rt, od_nx, ofO_some, d_add, d_sub, d_mul, d_div, d_mod, d_cat, d_catT, c_eqI, c_neI, c_lt, c_le, c_gt, c_ge, List.map_cons, List.map_nil, List.length_cons, List.length_nil, List.getElem?_cons_zero, List.getElem?_cons_succ, List.set_cons_zero, List.set_cons_succ, List.cons_append, List.nil_append, List.append_nil, List.replicate, Nat.reduceAdd, Nat.reduceSub, Bool.true_and, Bool.and_true, Bool.false_and, Bool.and_false, Bool.true_or, Bool.or_true, Bool.false_or, Bool.or_false, Bool.not_true, Bool.not_false, if_true, if_false, Bool.false_eq_true, reduceIte, asD_t, ixw0, ixw2, e2, el_pt, e1, get_t]
  rintro ρ ⟨s4, rfl⟩
  apply seq_rt
  rw [List.take_length]
  simp (disch := (first | trivial | omega | (simp only [true_and, and_true, lim, List.length_cons, List.length_nil, List.length_map, List.length_append] <;> first | trivial | omega) | assumption)) only [asOwn, asOwnL, runB, evSs, evS, evE, evEs, evB, evIt, isV, isNo, bind_ok, bind_ex, guard_t, env0, mk_lst, mk_dct, mk_tup, mk_frz, mk_int, mk_bl, mk_str, mk_non, el_lst, el_dct, el_tup, el_frz, el_int, el_bl, el_str, el_non, new_own, new_top, new_pl, io_own, io_top, io_pl, asB_bl, asI_int, ent_top, ent_pl, fr_own, fr_top, fr_pl, pu_int, pu_bl, pu_str, pu_non, pu_tup, pu_lst, pu_nil, pu_cons, pe_lst', no_nil, no_cons, al_nil, al_cons, od_rt, od_nx, ofO_some, d_add, d_sub, d_mul, d_div, d_mod, d_cat, d_catT, c_eqI, c_neI, c_lt, c_le, c_gt, c_ge, List.map_cons, List.map_nil, List.length_cons, List.length_nil, List.getElem?_cons_zero, List.getElem?_cons_succ, List.set_cons_zero, List.set_cons_succ, List.cons_append, List.nil_append, List.append_nil, List.replicate, Nat.reduceAdd, Nat.reduceSub, Bool.true_and, Bool.and_true, Bool.false_and, Bool.and_false, Bool.true_or, Bool.or_true, Bool.false_or, Bool.or_false, Bool.not_true, Bool.not_false, if_true, if_false, Bool.false_eq_true, reduceIte]
def lgivenF : Fn := ⟨2, 4, (.cons (.set 2 false (.lst (.cons (.ki 1) (.cons (.ki 5) (.cons (.ki 25) (.cons (.ki 125) (.cons (.ki 625) (.cons (.ki 3125) .nil)))))))) (.cons (.ret (.bl .tuple (.cons (.lc (.bin .Mod (.bin .FloorDiv (.v 1) (.ix (.v 2) (.v 3))) (.ix (.v 0) (.ki 0))) [3] (.r1 (.ix (.v 0) (.ki 1))) .no) .nil))) .nil))⟩
theorem run_lgiven (S : Sig) {w : Wk} (hw : w.ok) (c : Int) : ∃ gs : List Int, gs.length = w.inp ∧ (∀ g ∈ gs, 0 ≤ g ∧ g < w.ring) ∧ runB S lgivenF [w.D, .int c] = .ok (.tup (gs.map D.int)) := by
  have i6 := hw.i6
  have r2 := hw.r2
  refine ⟨(List.range w.inp).map fun j => c / tab6 j % w.ring, by simp, fun g hg => ?_, ?_⟩
  · obtain ⟨j, _, rfl⟩ := List.mem_map.mp hg
    exact ⟨Int.emod_nonneg _ (by omega), Int.emod_lt_of_pos _ (by omega)⟩
  · unfold lgivenF
    refine run_rt ?_
    (apply seq_step; focus (simp (disch := (first | trivial | omega | (simp only [true_and, and_true, lim, List.length_cons, List.length_nil, List.length_map, List.length_append] <;> first | trivial | omega) | assumption)) only [asOwn, asOwnL, runB, evSs, evS, evE, evEs, evB, evIt, isV, isNo, bind_ok, bind_ex, guard_t, env0, mk_lst, mk_dct, mk_tup, mk_frz, mk_int, mk_bl, mk_str, mk_non, el_lst, el_dct, el_tup, el_frz, el_int, el_bl, el_str, el_non, new_own, new_top, new_pl, io_own, io_top, io_pl, asB_bl, asI_int, ent_top, ent_pl, fr_own, fr_top, fr_pl, pu_int, pu_bl, pu_str, pu_non, pu_tup, pu_lst, pu_nil, pu_cons, pe_lst', no_nil, no_cons, al_nil, al_cons, od_rt, od_nx, ofO_some, d_add, d_sub, d_mul, d_div, d_mod, d_cat, d_catT, c_eqI, c_neI, c_lt, c_le, c_gt, c_ge, List.map_cons, List.map_nil, List.length_cons, List.length_nil, List.getElem?_cons_zero, List.getElem?_cons_succ, List.set_cons_zero, List.set_cons_succ, List.cons_append, List.nil_append, List.append_nil, List.replicate, Nat.reduceAdd, Nat.reduceSub, Bool.true_and, Bool.and_true, Bool.false_and, Bool.and_false, Bool.true_or, Bool.or_true, Bool.false_or, Bool.or_false, Bool.not_true, Bool.not_false, if_true, if_false, Bool.false_eq_true, reduceIte]; exact rfl))
    apply seq_rt
    rw [evS, evE, evEs, lc_r1 (n := w.inp) (kd := .pl true) (rs := (List.range w.inp).map fun j => (.pl true, .int (c / tab6 j % w.ring))) (by simp (disch := (first | trivial | omega | (simp only [true_and, and_true, lim, List.length_cons, List.length_nil, List.length_map, List.length_append] <;> first | trivial | omega) | assumption)) only [asOwn, asOwnL, runB, evSs, evS, evE, evEs, evB, evIt, isV, isNo, bind_ok, bind_ex, guard_t, env0, mk_lst, mk_dct, mk_tup, mk_frz, mk_int, mk_bl, mk_str, mk_non, el_lst, el_dct, el_tup, el_frz, el_int, el_bl, el_str, el_non, new_own, new_top, new_pl, io_own, io_top, io_pl, asB_bl, asI_int, ent_top, ent_pl, fr_own, fr_top, fr_pl, pu_int, pu_bl, pu_str, pu_non, pu_tup, pu_lst, pu_nil, pu_cons, pe_lst', no_nil, no_cons, al_nil, al_cons, od_rt, od_nx, ofO_some, d_add, d_sub, d_mul, d_div, d_mod, d_cat, d_catT, c_eqI, c_neI, c_lt, c_le, c_gt, c_ge, List.map_cons, List.map_nil, List.length_cons, List.length_nil, List.getElem?_cons_zero, List.getElem?_cons_succ, List.set_cons_zero, List.set_cons_succ, List.cons_append, List.nil_append, List.append_nil, List.replicate, Nat.reduceAdd, Nat.reduceSub, Bool.true_and, Bool.and_true, Bool.false_and, Bool.and_false, Bool.true_or, Bool.or_true, Bool.false_or, Bool.or_false, Bool.not_true, Bool.not_false, if_true, if_false, Bool.false_eq_true, reduceIte, ixw1]) (by omega) rfl (noOwn_map _ _ fun _ _ => rfl) (compM_rng _ fun j hj => by
      have e1 := tab6_at (j := j) (by omega)
      obtain ⟨e2, e3⟩ := tab6_pos j
      simp (disch := (first | trivial | omega | (simp only [true_and, and_true, lim, List.length_cons, List.length_nil, List.length_map, List.length_append] <;> first | trivial | omega) | assumption)) only [asOwn, asOwnL, runB, evSs, evS, evE, evEs, evB, evIt, isV, isNo, bind_ok, bind_ex, guard_t, env0, mk_lst, mk_dct, mk_tup, mk_frz, mk_int, mk_bl, mk_str, mk_non, el_lst, el_dct, el_tup, el_frz, el_int, el_bl, el_str, el_non, new_own, new_top, new_pl, io_own, io_top, io_pl, asB_bl, asI_int, ent_top, ent_pl, fr_own, fr_top, fr_pl, pu_int, pu_bl, pu_str, pu_non, pu_tup, pu_lst, pu_nil, pu_cons, pe_lst', no_nil, no_cons, al_nil, al_cons, od_rt, od_nx, ofO_some, d_add, d_sub, d_mul, d_div, d_mod, d_cat, d_catT, c_eqI, c_neI, c_lt, c_le, c_gt, c_ge, List.map_cons, List.map_nil, List.length_cons, List.length_nil, List.getElem?_cons_zero, List.getElem?_cons_succ, List.set_cons_zero, List.set_cons_succ, List.cons_append, List.nil_append, List.append_nil, List.replicate, Nat.reduceAdd, Nat.reduceSub, Bool.true_and, Bool.and_true, Bool.false_and, Bool.and_false, Bool.true_or, Bool.or_true, Bool.false_or, Bool.or_false, Bool.not_true, Bool.not_false, if_true, if_false, Bool.false_eq_true, reduceIte, bindT_1, setE_int, wipe_1, e1, ixw0])]
    have e5 : allNew ((List.range w.inp).map fun j : Nat => ((Kd.pl true, D.int (c / tab6 j % w.ring)) : R)) = true := allNew_map _ _ fun _ _ => rfl
    simp (disch := (first | trivial | omega | (simp only [true_and, and_true, lim, List.length_cons, List.length_nil, List.length_map, List.length_append] <;> first | trivial | omega) | assumption)) only [asOwn, asOwnL, runB, evSs, evS, evE, evEs, evB, evIt, isV, isNo, bind_ok, bind_ex, guard_t, env0, mk_lst, mk_dct, mk_tup, mk_frz, mk_int, mk_bl, mk_str, mk_non, el_lst, el_dct, el_tup, el_frz, el_int, el_bl, el_str, el_non, new_own, new_top, new_pl, io_own, io_top, io_pl, asB_bl, asI_int, ent_top, ent_pl, fr_own, fr_top, fr_pl, pu_int, pu_bl, pu_str, pu_non, pu_tup, pu_lst, pu_nil, pu_cons, pe_lst', no_nil, no_cons, al_nil, al_cons, od_rt, od_nx, ofO_some, d_add, d_sub, d_mul, d_div, d_mod, d_cat, d_catT, c_eqI, c_neI, c_lt, c_le, c_gt, c_ge, List.map_cons, List.map_nil, List.length_cons, List.length_nil, List.getElem?_cons_zero, List.getElem?_cons_succ, List.set_cons_zero, List.set_cons_succ, List.cons_append, List.nil_append, List.append_nil, List.replicate, Nat.reduceAdd, Nat.reduceSub, Bool.true_and, Bool.and_true, Bool.false_and, Bool.and_false, Bool.true_or, Bool.or_true, Bool.false_or, Bool.or_false, Bool.not_true, Bool.not_false, if_true, if_false, Bool.false_eq_true, reduceIte, e5, tup_lst, List.map_map]
    rfl
end PyV
namespace PyV
open PySem L2
/-! ### rooms of several looks -/
abbrev Lk := List Int × List (Int × Int)
def LkD (l : Lk) : D := lD l.1 l.2
def tI (r : List Int) : D := .tup (r.map D.int)
def roomsD (os : List (Option (List Int))) : D := match os.mapM id with
  | some rs => .lst (rs.map tI)
  | none => .non
def roomsF (sx rm : Nat) : Fn := ⟨3, 6, (.cons (.exp (.call sx (.cons (.v 0) (.cons (.v 2) .nil)))) (.cons (.set 3 true (.lst .nil)) (.cons (.forr [4] (.sq (.v 1)) (.cons (.set 5 false (.call rm (.cons (.v 0) (.cons (.v 4) (.cons (.v 2) .nil))))) (.cons (.iff (.cmp .Is (.v 5) .kn) (.cons (.ret .kn) .nil) .nil) (.cons (.app 3 (.v 5)) .nil)))) (.cons (.ret (.v 3)) .nil))))⟩
theorem pureL_tI (rs : List (List Int)) : pureL (rs.map tI) = true := by
  induction rs with
  | nil => rfl
  | cons r rs ih =>
    show (pureL (r.map D.int) && pureL (rs.map tI)) = true
    rw [pureL_ints, ih]
    rfl
theorem run_rooms (S : Sig) (sx rm : Nat) {w : Wk} {br : List Int} {ls : List Lk} {o : Lk → Option (List Int)} (hn : ls.length < 1000) (h1 : S.call sx [w.D, bD br] = .ok (.bl true)) (h2 : ∀ l ∈ ls, S.call rm [w.D, LkD l, bD br] = .ok (optD (o l))) :
    runB S (roomsF sx rm) [w.D, .lst (ls.map LkD), bD br] = .ok (roomsD (ls.map o)) := by
  have key : ∀ (r : List Lk) (acc : List (List Int)) (s4 s5 : Option (Tg × D)), (∀ l ∈ r, l ∈ ls) → acc.length + r.length < 1000 →
      match (r.map o).mapM id with
      | some rs => ∃ s4' s5', loopM (fun ρ x => (bindT (Kd.pl false).new x ρ [4]).bind fun ρ' => evSs S (.cons (.set 5 false (.call rm (.cons (.v 0) (.cons (.v 4) (.cons (.v 2) .nil))))) (.cons (.iff (.cmp .Is (.v 5) .kn) (.cons (.ret .kn) .nil) .nil) (.cons (.app 3 (.v 5)) .nil))) ρ') (r.map LkD)
          [some (.old, w.D), some (.old, .lst (ls.map LkD)), some (.old, bD br), some (.own, .lst (acc.map tI)), s4, s5] = .ok (.nx [some (.old, w.D), some (.old, .lst (ls.map LkD)), some (.old, bD br), some (.own, .lst ((acc ++ rs).map tI)), s4', s5'])
      | none => loopM (fun ρ x => (bindT (Kd.pl false).new x ρ [4]).bind fun ρ' => evSs S (.cons (.set 5 false (.call rm (.cons (.v 0) (.cons (.v 4) (.cons (.v 2) .nil))))) (.cons (.iff (.cmp .Is (.v 5) .kn) (.cons (.ret .kn) .nil) .nil) (.cons (.app 3 (.v 5)) .nil))) ρ') (r.map LkD)
          [some (.old, w.D), some (.old, .lst (ls.map LkD)), some (.old, bD br), some (.own, .lst (acc.map tI)), s4, s5] = .ok (.rt .non) := by
    intro r
    induction r with
    | nil => intro acc s4 s5 _ _; exact ⟨s4, s5, by simp [loopM]⟩
    | cons l r ih =>
      intro acc s4 s5 hm hlen
      rw [List.length_cons] at hlen
      have e1 := h2 l (hm l List.mem_cons_self)
      cases ho : o l with
      | none =>
        rw [ho] at e1
        have e1 : S.call rm [w.D, LkD l, bD br] = .ok .non := e1
        have en : ((l :: r).map o).mapM id = none := by
          rw [List.map_cons, ho]
          rfl
        rw [en]
        show M.bind (M.bind (bindT false (LkD l) _ [4]) _) _ = _
        have eb : bindT false (LkD l) [some (.old, w.D), some (.old, .lst (ls.map LkD)), some (.old, bD br), some (.own, .lst (acc.map tI)), s4, s5] [4] = .ok [some (.old, w.D), some (.old, .lst (ls.map LkD)), some (.old, bD br), some (.own, .lst (acc.map tI)), some (.old, LkD l), s5] := rfl
        rw [eb, bind_ok, seq_step (ρ' := [some (.old, w.D), some (.old, .lst (ls.map LkD)), some (.old, bD br), some (.own, .lst (acc.map tI)), some (.old, LkD l), some (.new, .non)]) (r := .ok (.rt .non)) (by simp (disch := (first | trivial | omega | (simp only [true_and, and_true, lim, List.length_cons, List.length_nil, List.length_map, List.length_append] <;> first | trivial | omega) | assumption)) only [asOwn, asOwnL, runB, evSs, evS, evE, evEs, evB, evIt, isV, isNo, bind_ok, bind_ex, guard_t, env0, mk_lst, mk_dct, mk_tup, mk_frz, mk_int, mk_bl, mk_str, mk_non, el_lst, el_dct, el_tup, el_frz, el_int, el_bl, el_str, el_non, new_own, new_top, new_pl, io_own, io_top, io_pl, asB_bl, asI_int, ent_top, ent_pl, fr_own, fr_top, fr_pl, pu_int, pu_bl, pu_str, pu_non, pu_tup, pu_lst, pu_nil, pu_cons, pe_lst', no_nil, no_cons, al_nil, al_cons, od_rt, od_nx, ofO_some, d_add, d_sub, d_mul, d_div, d_mod, d_cat, d_catT, c_eqI, c_neI, c_lt, c_le, c_gt, c_ge, List.map_cons, List.map_nil, List.length_cons, List.length_nil, List.getElem?_cons_zero, List.getElem?_cons_succ, List.set_cons_zero, List.set_cons_succ, List.cons_append, List.nil_append, List.append_nil, List.replicate, Nat.reduceAdd, Nat.reduceSub, Bool.true_and, Bool.and_true, Bool.false_and, Bool.and_false, Bool.true_or, Bool.or_true, Bool.false_or, Bool.or_false, Bool.not_true, Bool.not_false, if_true, if_false, Bool.false_eq_true, reduceIte, e1]) (seq_rt (if_t (k := .pl true) (by simp (disch := (first | trivial | omega | (simp only [true_and, and_true, lim, List.length_cons, List.length_nil, List.length_map, List.length_append] <;> first | trivial | omega) | assumption)) only [asOwn, asOwnL, runB, evSs, evS, evE, evEs, evB, evIt, isV, isNo, bind_ok, bind_ex, guard_t, env0, mk_lst, mk_dct, mk_tup, mk_frz, mk_int, mk_bl, mk_str, mk_non, el_lst, el_dct, el_tup, el_frz, el_int, el_bl, el_str, el_non, new_own, new_top, new_pl, io_own, io_top, io_pl, asB_bl, asI_int, ent_top, ent_pl, fr_own, fr_top, fr_pl, pu_int, pu_bl, pu_str, pu_non, pu_tup, pu_lst, pu_nil, pu_cons, pe_lst', no_nil, no_cons, al_nil, al_cons, od_rt, od_nx, ofO_some, d_add, d_sub, d_mul, d_div, d_mod, d_cat, d_catT, c_eqI, c_neI, c_lt, c_le, c_gt, c_ge, List.map_cons, List.map_nil, List.length_cons, List.length_nil, List.getElem?_cons_zero, List.getElem?_cons_succ, List.set_cons_zero, List.set_cons_succ, List.cons_append, List.nil_append, List.append_nil, List.replicate, Nat.reduceAdd, Nat.reduceSub, Bool.true_and, Bool.and_true, Bool.false_and, Bool.and_false, Bool.true_or, Bool.or_true, Bool.false_or, Bool.or_false, Bool.not_true, Bool.not_false, if_true, if_false, Bool.false_eq_true, reduceIte, c_is_non]) (seq_rt (by simp (disch := (first | trivial | omega | (simp only [true_and, and_true, lim, List.length_cons, List.length_nil, List.length_map, List.length_append] <;> first | trivial | omega) | assumption)) only [asOwn, asOwnL, runB, evSs, evS, evE, evEs, evB, evIt, isV, isNo, bind_ok, bind_ex, guard_t, env0, mk_lst, mk_dct, mk_tup, mk_frz, mk_int, mk_bl, mk_str, mk_non, el_lst, el_dct, el_tup, el_frz, el_int, el_bl, el_str, el_non, new_own, new_top, new_pl, io_own, io_top, io_pl, asB_bl, asI_int, ent_top, ent_pl, fr_own, fr_top, fr_pl, pu_int, pu_bl, pu_str, pu_non, pu_tup, pu_lst, pu_nil, pu_cons, pe_lst', no_nil, no_cons, al_nil, al_cons, od_rt, od_nx, ofO_some, d_add, d_sub, d_mul, d_div, d_mod, d_cat, d_catT, c_eqI, c_neI, c_lt, c_le, c_gt, c_ge, List.map_cons, List.map_nil, List.length_cons, List.length_nil, List.getElem?_cons_zero, List.getElem?_cons_succ, List.set_cons_zero, List.set_cons_succ, List.cons_append, List.nil_append, List.append_nil, List.replicate, Nat.reduceAdd, Nat.reduceSub, Bool.true_and, Bool.and_true, Bool.false_and, Bool.and_false, Bool.true_or, Bool.or_true, Bool.false_or, Bool.or_false, Bool.not_true, Bool.not_false, if_true, if_false, Bool.false_eq_true, reduceIte]))))]
        rfl
      | some q =>
        rw [ho] at e1
        have e1 : S.call rm [w.D, LkD l, bD br] = .ok (tI q) := e1
        have ih' := ih (acc ++ [q]) (some (.old, LkD l)) (some (.new, tI q)) (fun x hx => hm x (List.mem_cons_of_mem _ hx)) (by simp; omega)
        have mk : mkR true (tI q) = (.pl true, tI q) := rfl
        have ci : dCmp .Is (tI q) .non = .ok (.bl false) := rfl
        have eb : bindT false (LkD l) [some (.old, w.D), some (.old, .lst (ls.map LkD)), some (.old, bD br), some (.own, .lst (acc.map tI)), s4, s5] [4] = .ok [some (.old, w.D), some (.old, .lst (ls.map LkD)), some (.old, bD br), some (.own, .lst (acc.map tI)), some (.old, LkD l), s5] := rfl
        have estep : evSs S (.cons (.set 5 false (.call rm (.cons (.v 0) (.cons (.v 4) (.cons (.v 2) .nil))))) (.cons (.iff (.cmp .Is (.v 5) .kn) (.cons (.ret .kn) .nil) .nil) (.cons (.app 3 (.v 5)) .nil))) [some (.old, w.D), some (.old, .lst (ls.map LkD)), some (.old, bD br), some (.own, .lst (acc.map tI)), some (.old, LkD l), s5] = .ok (.nx [some (.old, w.D), some (.old, .lst (ls.map LkD)), some (.old, bD br), some (.own, .lst ((acc ++ [q]).map tI)), some (.old, LkD l), some (.new, tI q)]) := by
          apply seq_step
          · simp (disch := (first | trivial | omega | (simp only [true_and, and_true, lim, List.length_cons, List.length_nil, List.length_map, List.length_append] <;> first | trivial | omega) | assumption)) only [asOwn, asOwnL, runB, evSs, evS, evE, evEs, evB, evIt, isV, isNo, bind_ok, bind_ex, guard_t, env0, mk_lst, mk_dct, mk_tup, mk_frz, mk_int, mk_bl, mk_str, mk_non, el_lst, el_dct, el_tup, el_frz, el_int, el_bl, el_str, el_non, new_own, new_top, new_pl, io_own, io_top, io_pl, asB_bl, asI_int, ent_top, ent_pl, fr_own, fr_top, fr_pl, pu_int, pu_bl, pu_str, pu_non, pu_tup, pu_lst, pu_nil, pu_cons, pe_lst', no_nil, no_cons, al_nil, al_cons, od_rt, od_nx, ofO_some, d_add, d_sub, d_mul, d_div, d_mod, d_cat, d_catT, c_eqI, c_neI, c_lt, c_le, c_gt, c_ge, List.map_cons, List.map_nil, List.length_cons, List.length_nil, List.getElem?_cons_zero, List.getElem?_cons_succ, List.set_cons_zero, List.set_cons_succ, List.cons_append, List.nil_append, List.append_nil, List.replicate, Nat.reduceAdd, Nat.reduceSub, Bool.true_and, Bool.and_true, Bool.false_and, Bool.and_false, Bool.true_or, Bool.or_true, Bool.false_or, Bool.or_false, Bool.not_true, Bool.not_false, if_true, if_false, Bool.false_eq_true, reduceIte, e1, mk]
            exact rfl
          apply seq_step
          · refine if_f (k := .pl true) ?_ seq_nil
            simp (disch := (first | trivial | omega | (simp only [true_and, and_true, lim, List.length_cons, List.length_nil, List.length_map, List.length_append] <;> first | trivial | omega) | assumption)) only [asOwn, asOwnL, runB, evSs, evS, evE, evEs, evB, evIt, isV, isNo, bind_ok, bind_ex, guard_t, env0, mk_lst, mk_dct, mk_tup, mk_frz, mk_int, mk_bl, mk_str, mk_non, el_lst, el_dct, el_tup, el_frz, el_int, el_bl, el_str, el_non, new_own, new_top, new_pl, io_own, io_top, io_pl, asB_bl, asI_int, ent_top, ent_pl, fr_own, fr_top, fr_pl, pu_int, pu_bl, pu_str, pu_non, pu_tup, pu_lst, pu_nil, pu_cons, pe_lst', no_nil, no_cons, al_nil, al_cons, od_rt, od_nx, ofO_some, d_add, d_sub, d_mul, d_div, d_mod, d_cat, d_catT, c_eqI, c_neI, c_lt, c_le, c_gt, c_ge, List.map_cons, List.map_nil, List.length_cons, List.length_nil, List.getElem?_cons_zero, List.getElem?_cons_succ, List.set_cons_zero, List.set_cons_succ, List.cons_append, List.nil_append, List.append_nil, List.replicate, Nat.reduceAdd, Nat.reduceSub, Bool.true_and, Bool.and_true, Bool.false_and, Bool.and_false, Bool.true_or, Bool.or_true, Bool.false_or, Bool.or_false, Bool.not_true, Bool.not_false, if_true, if_false, Bool.false_eq_true, reduceIte, ci]
          refine seq_last ?_
          simp (disch := (first | trivial | omega | (simp only [true_and, and_true, lim, List.length_cons, List.length_nil, List.length_map, List.length_append] <;> first | trivial | omega) | assumption)) only [asOwn, asOwnL, runB, evSs, evS, evE, evEs, evB, evIt, isV, isNo, bind_ok, bind_ex, guard_t, env0, mk_lst, mk_dct, mk_tup, mk_frz, mk_int, mk_bl, mk_str, mk_non, el_lst, el_dct, el_tup, el_frz, el_int, el_bl, el_str, el_non, new_own, new_top, new_pl, io_own, io_top, io_pl, asB_bl, asI_int, ent_top, ent_pl, fr_own, fr_top, fr_pl, pu_int, pu_bl, pu_str, pu_non, pu_tup, pu_lst, pu_nil, pu_cons, pe_lst', no_nil, no_cons, al_nil, al_cons, od_rt, od_nx, ofO_some, d_add, d_sub, d_mul, d_div, d_mod, d_cat, d_catT, c_eqI, c_neI, c_lt, c_le, c_gt, c_ge, List.map_cons, List.map_nil, List.length_cons, List.length_nil, List.getElem?_cons_zero, List.getElem?_cons_succ, List.set_cons_zero, List.set_cons_succ, List.cons_append, List.nil_append, List.append_nil, List.replicate, Nat.reduceAdd, Nat.reduceSub, Bool.true_and, Bool.and_true, Bool.false_and, Bool.and_false, Bool.true_or, Bool.or_true, Bool.false_or, Bool.or_false, Bool.not_true, Bool.not_false, if_true, if_false, Bool.false_eq_true, reduceIte, List.map_append]
        have hmap : ((l :: r).map o).mapM id = ((r.map o).mapM id).map (q :: ·) := by
          rw [List.map_cons, ho, List.mapM_cons]
          cases (r.map o).mapM id <;> rfl
        rw [hmap]
        cases hr : (r.map o).mapM id with
        | some rs =>
          rw [hr] at ih'
          obtain ⟨a, b, e⟩ := ih'
          refine ⟨a, b, ?_⟩
          rw [List.map_cons]
          show M.bind (M.bind (bindT false (LkD l) _ [4]) _) _ = _
          rw [eb, bind_ok, estep]
          refine Eq.trans e ?_
          simp
        | none =>
          rw [hr] at ih'
          rw [List.map_cons]
          show M.bind (M.bind (bindT false (LkD l) _ [4]) _) _ = _
          rw [eb, bind_ok, estep]
          exact ih'
  have k0 := key ls [] none none (fun _ h => h) (by simpa using hn)
  unfold roomsF
  refine run_rt ?_
  (apply seq_step; focus (simp (disch := (first | trivial | omega | (simp only [true_and, and_true, lim, List.length_cons, List.length_nil, List.length_map, List.length_append] <;> first | trivial | omega) | assumption)) only [asOwn, asOwnL, runB, evSs, evS, evE, evEs, evB, evIt, isV, isNo, bind_ok, bind_ex, guard_t, env0, mk_lst, mk_dct, mk_tup, mk_frz, mk_int, mk_bl, mk_str, mk_non, el_lst, el_dct, el_tup, el_frz, el_int, el_bl, el_str, el_non, new_own, new_top, new_pl, io_own, io_top, io_pl, asB_bl, asI_int, ent_top, ent_pl, fr_own, fr_top, fr_pl, pu_int, pu_bl, pu_str, pu_non, pu_tup, pu_lst, pu_nil, pu_cons, pe_lst', no_nil, no_cons, al_nil, al_cons, od_rt, od_nx, ofO_some, d_add, d_sub, d_mul, d_div, d_mod, d_cat, d_catT, c_eqI, c_neI, c_lt, c_le, c_gt, c_ge, List.map_cons, List.map_nil, List.length_cons, List.length_nil, List.getElem?_cons_zero, List.getElem?_cons_succ, List.set_cons_zero, List.set_cons_succ, List.cons_append, List.nil_append, List.append_nil, List.replicate, Nat.reduceAdd, Nat.reduceSub, Bool.true_and, Bool.and_true, Bool.false_and, Bool.and_false, Bool.true_or, Bool.or_true, Bool.false_or, Bool.or_false, Bool.not_true, Bool.not_false, if_true, if_false, Bool.false_eq_true, reduceIte, h1]; exact rfl))
  (apply seq_step; focus (simp (disch := (first | trivial | omega | (simp only [true_and, and_true, lim, List.length_cons, List.length_nil, List.length_map, List.length_append] <;> first | trivial | omega) | assumption)) only [asOwn, asOwnL, runB, evSs, evS, evE, evEs, evB, evIt, isV, isNo, bind_ok, bind_ex, guard_t, env0, mk_lst, mk_dct, mk_tup, mk_frz, mk_int, mk_bl, mk_str, mk_non, el_lst, el_dct, el_tup, el_frz, el_int, el_bl, el_str, el_non, new_own, new_top, new_pl, io_own, io_top, io_pl, asB_bl, asI_int, ent_top, ent_pl, fr_own, fr_top, fr_pl, pu_int, pu_bl, pu_str, pu_non, pu_tup, pu_lst, pu_nil, pu_cons, pe_lst', no_nil, no_cons, al_nil, al_cons, od_rt, od_nx, ofO_some, d_add, d_sub, d_mul, d_div, d_mod, d_cat, d_catT, c_eqI, c_neI, c_lt, c_le, c_gt, c_ge, List.map_cons, List.map_nil, List.length_cons, List.length_nil, List.getElem?_cons_zero, List.getElem?_cons_succ, List.set_cons_zero, List.set_cons_succ, List.cons_append, List.nil_append, List.append_nil, List.replicate, Nat.reduceAdd, Nat.reduceSub, Bool.true_and, Bool.and_true, Bool.false_and, Bool.and_false, Bool.true_or, Bool.or_true, Bool.false_or, Bool.or_false, Bool.not_true, Bool.not_false, if_true, if_false, Bool.false_eq_true, reduceIte]; exact rfl))
  unfold roomsD
  have ef := fun (s : Option (Tg × D)) => for_sq (S := S) (ρ := [some (.old, w.D), some (.old, .lst (ls.map LkD)), some (.old, bD br), some (.own, .lst []), none, none]) (a := .v 1) (ts := [4]) (body := (.cons (.set 5 false (.call rm (.cons (.v 0) (.cons (.v 4) (.cons (.v 2) .nil))))) (.cons (.iff (.cmp .Is (.v 5) .kn) (.cons (.ret .kn) .nil) .nil) (.cons (.app 3 (.v 5)) .nil)))) (kd := .pl false) (x := .lst (ls.map LkD)) (xs := ls.map LkD) (by simp (disch := (first | trivial | omega | (simp only [true_and, and_true, lim, List.length_cons, List.length_nil, List.length_map, List.length_append] <;> first | trivial | omega) | assumption)) only [asOwn, asOwnL, runB, evSs, evS, evE, evEs, evB, evIt, isV, isNo, bind_ok, bind_ex, guard_t, env0, mk_lst, mk_dct, mk_tup, mk_frz, mk_int, mk_bl, mk_str, mk_non, el_lst, el_dct, el_tup, el_frz, el_int, el_bl, el_str, el_non, new_own, new_top, new_pl, io_own, io_top, io_pl, asB_bl, asI_int, ent_top, ent_pl, fr_own, fr_top, fr_pl, pu_int, pu_bl, pu_str, pu_non, pu_tup, pu_lst, pu_nil, pu_cons, pe_lst', no_nil, no_cons, al_nil, al_cons, od_rt, od_nx, ofO_some, d_add, d_sub, d_mul, d_div, d_mod, d_cat, d_catT, c_eqI, c_neI, c_lt, c_le, c_gt, c_ge, List.map_cons, List.map_nil, List.length_cons, List.length_nil, List.getElem?_cons_zero, List.getElem?_cons_succ, List.set_cons_zero, List.set_cons_succ, List.cons_append, List.nil_append, List.append_nil, List.replicate, Nat.reduceAdd, Nat.reduceSub, Bool.true_and, Bool.and_true, Bool.false_and, Bool.and_false, Bool.true_or, Bool.or_true, Bool.false_or, Bool.or_false, Bool.not_true, Bool.not_false, if_true, if_false, Bool.false_eq_true, reduceIte]) rfl rfl
  cases hm : (ls.map o).mapM id with
  | some rs =>
    rw [hm] at k0
    obtain ⟨a, b, e⟩ := k0
    apply seq_step
    · rw [ef none]
      exact e
    apply seq_rt
    simp (disch := (first | trivial | omega | (simp only [true_and, and_true, lim, List.length_cons, List.length_nil, List.length_map, List.length_append] <;> first | trivial | omega) | assumption)) only [asOwn, asOwnL, runB, evSs, evS, evE, evEs, evB, evIt, isV, isNo, bind_ok, bind_ex, guard_t, env0, mk_lst, mk_dct, mk_tup, mk_frz, mk_int, mk_bl, mk_str, mk_non, el_lst, el_dct, el_tup, el_frz, el_int, el_bl, el_str, el_non, new_own, new_top, new_pl, io_own, io_top, io_pl, asB_bl, asI_int, ent_top, ent_pl, fr_own, fr_top, fr_pl, pu_int, pu_bl, pu_str, pu_non, pu_tup, pu_lst, pu_nil, pu_cons, pe_lst', no_nil, no_cons, al_nil, al_cons, od_rt, od_nx, ofO_some, d_add, d_sub, d_mul, d_div, d_mod, d_cat, d_catT, c_eqI, c_neI, c_lt, c_le, c_gt, c_ge, List.map_cons, List.map_nil, List.length_cons, List.length_nil, List.getElem?_cons_zero, List.getElem?_cons_succ, List.set_cons_zero, List.set_cons_succ, List.cons_append, List.nil_append, List.append_nil, List.replicate, Nat.reduceAdd, Nat.reduceSub, Bool.true_and, Bool.and_true, Bool.false_and, Bool.and_false, Bool.true_or, Bool.or_true, Bool.false_or, Bool.or_false, Bool.not_true, Bool.not_false, if_true, if_false, Bool.false_eq_true, reduceIte, List.nil_append]
  | none =>
    rw [hm] at k0
    apply seq_rt
    rw [ef none]
    exact k0
end PyV
namespace PyV
open PySem L2
theorem nice_rows (rows : List (List Int)) : Nice 2 (.lst (rows.map rD)) := fun x hx => by
  obtain ⟨r, _, rfl⟩ := List.mem_map.mp hx
  exact nice_lints r
theorem eq_nil {x : D} {xs : List D} {n : Nat} (h : Nice n (.lst (x :: xs))) (hn : n ≤ 64 := by decide) : dCmp .Eq (.lst (x :: xs)) (.lst []) = .ok (.bl false) := by
  show guard' (eqOk (.lst (x :: xs)) = true ∧ eqOk (.lst []) = true) (M.ok (D.bl (PyData.eqv (py (.lst (x :: xs))) (py (.lst []))))) = _
  rw [guard_t ⟨h.ok hn, Nice.ok (n := 1) (d := .lst []) (fun y hy => by cases hy)⟩]
  simp [py, pyL, PyData.eqv, PyData.eqvAll]
theorem eq_nil0 : dCmp .Eq (.lst []) (.lst []) = .ok (.bl true) := c_eq_self (n := 1) (d := .lst []) (fun y hy => by cases hy)
def lfirstF (al : Nat) : Fn := ⟨3, 4, (.cons (.set 3 false (.call al (.cons (.v 0) (.cons (.ix (.v 1) (.ki 0)) (.cons (.bl .dict (.cons (.ix (.v 1) (.ki 1)) .nil)) (.cons (.v 2) .nil)))))) (.cons (.iff (.cmp .Eq (.v 3) (.lst .nil)) (.cons (.ret .kn) .nil) .nil) (.cons (.ret (.bl .tuple (.cons (.mn (.v 3)) .nil))) .nil)))⟩
theorem run_lfirst (S : Sig) (al : Nat) {w : Wk} {gs : List Int} {sn : List (Int × Int)} {br : List Int} {rows : List (List Int)} (hp : rows.Pairwise LexI) (h : S.call al [w.D, .tup (gs.map D.int), tD (dictI sn), bD br] = .ok (.lst (rows.map rD))) :
    runB S (lfirstF al) [w.D, lD gs sn, bD br] = .ok (optD rows.head?) := by
  unfold lfirstF
  refine run_rt ?_
  (apply seq_step; focus (simp (disch := (first | trivial | omega | (simp only [true_and, and_true, lim, List.length_cons, List.length_nil, List.length_map, List.length_append] <;> first | trivial | omega) | assumption)) only [asOwn, asOwnL, runB, evSs, evS, evE, evEs, evB, evIt, isV, isNo, bind_ok, bind_ex, guard_t, env0, mk_lst, mk_dct, mk_tup, mk_frz, mk_int, mk_bl, mk_str, mk_non, el_lst, el_dct, el_tup, el_frz, el_int, el_bl, el_str, el_non, new_own, new_top, new_pl, io_own, io_top, io_pl, asB_bl, asI_int, ent_top, ent_pl, fr_own, fr_top, fr_pl, pu_int, pu_bl, pu_str, pu_non, pu_tup, pu_lst, pu_nil, pu_cons, pe_lst', no_nil, no_cons, al_nil, al_cons, od_rt, od_nx, ofO_some, d_add, d_sub, d_mul, d_div, d_mod, d_cat, d_catT, c_eqI, c_neI, c_lt, c_le, c_gt, c_ge, List.map_cons, List.map_nil, List.length_cons, List.length_nil, List.getElem?_cons_zero, List.getElem?_cons_succ, List.set_cons_zero, List.set_cons_succ, List.cons_append, List.nil_append, List.append_nil, List.replicate, Nat.reduceAdd, Nat.reduceSub, Bool.true_and, Bool.and_true, Bool.false_and, Bool.and_false, Bool.true_or, Bool.or_true, Bool.false_or, Bool.or_false, Bool.not_true, Bool.not_false, if_true, if_false, Bool.false_eq_true, reduceIte, ixl0, ixl1, el_s, dict_s, mk_t, h]; exact rfl))
  cases rows with
  | nil =>
    apply seq_rt
    refine if_t (k := .pl true) ?_ (seq_rt ?_)
    · simp (disch := (first | trivial | omega | (simp only [true_and, and_true, lim, List.length_cons, List.length_nil, List.length_map, List.length_append] <;> first | trivial | omega) | assumption)) only [asOwn, asOwnL, runB, evSs, evS, evE, evEs, evB, evIt, isV, isNo, bind_ok, bind_ex, guard_t, env0, mk_lst, mk_dct, mk_tup, mk_frz, mk_int, mk_bl, mk_str, mk_non, el_lst, el_dct, el_tup, el_frz, el_int, el_bl, el_str, el_non, new_own, new_top, new_pl, io_own, io_top, io_pl, asB_bl, asI_int, ent_top, ent_pl, fr_own, fr_top, fr_pl, pu_int, pu_bl, pu_str, pu_non, pu_tup, pu_lst, pu_nil, pu_cons, pe_lst', no_nil, no_cons, al_nil, al_cons, od_rt, od_nx, ofO_some, d_add, d_sub, d_mul, d_div, d_mod, d_cat, d_catT, c_eqI, c_neI, c_lt, c_le, c_gt, c_ge, List.map_cons, List.map_nil, List.length_cons, List.length_nil, List.getElem?_cons_zero, List.getElem?_cons_succ, List.set_cons_zero, List.set_cons_succ, List.cons_append, List.nil_append, List.append_nil, List.replicate, Nat.reduceAdd, Nat.reduceSub, Bool.true_and, Bool.and_true, Bool.false_and, Bool.and_false, Bool.true_or, Bool.or_true, Bool.false_or, Bool.or_false, Bool.not_true, Bool.not_false, if_true, if_false, Bool.false_eq_true, reduceIte, eq_nil0]
    · simp (disch := (first | trivial | omega | (simp only [true_and, and_true, lim, List.length_cons, List.length_nil, List.length_map, List.length_append] <;> first | trivial | omega) | assumption)) only [asOwn, asOwnL, runB, evSs, evS, evE, evEs, evB, evIt, isV, isNo, bind_ok, bind_ex, guard_t, env0, mk_lst, mk_dct, mk_tup, mk_frz, mk_int, mk_bl, mk_str, mk_non, el_lst, el_dct, el_tup, el_frz, el_int, el_bl, el_str, el_non, new_own, new_top, new_pl, io_own, io_top, io_pl, asB_bl, asI_int, ent_top, ent_pl, fr_own, fr_top, fr_pl, pu_int, pu_bl, pu_str, pu_non, pu_tup, pu_lst, pu_nil, pu_cons, pe_lst', no_nil, no_cons, al_nil, al_cons, od_rt, od_nx, ofO_some, d_add, d_sub, d_mul, d_div, d_mod, d_cat, d_catT, c_eqI, c_neI, c_lt, c_le, c_gt, c_ge, List.map_cons, List.map_nil, List.length_cons, List.length_nil, List.getElem?_cons_zero, List.getElem?_cons_succ, List.set_cons_zero, List.set_cons_succ, List.cons_append, List.nil_append, List.append_nil, List.replicate, Nat.reduceAdd, Nat.reduceSub, Bool.true_and, Bool.and_true, Bool.false_and, Bool.and_false, Bool.true_or, Bool.or_true, Bool.false_or, Bool.or_false, Bool.not_true, Bool.not_false, if_true, if_false, Bool.false_eq_true, reduceIte]
      rfl
  | cons r rows =>
    have e1 := eq_nil (nice_rows (r :: rows))
    have e2 := min_rows hp
    rw [List.map_cons] at e2
    apply seq_step
    · refine if_f (k := .pl true) ?_ seq_nil
      simp (disch := (first | trivial | omega | (simp only [true_and, and_true, lim, List.length_cons, List.length_nil, List.length_map, List.length_append] <;> first | trivial | omega) | assumption)) only [asOwn, asOwnL, runB, evSs, evS, evE, evEs, evB, evIt, isV, isNo, bind_ok, bind_ex, guard_t, env0, mk_lst, mk_dct, mk_tup, mk_frz, mk_int, mk_bl, mk_str, mk_non, el_lst, el_dct, el_tup, el_frz, el_int, el_bl, el_str, el_non, new_own, new_top, new_pl, io_own, io_top, io_pl, asB_bl, asI_int, ent_top, ent_pl, fr_own, fr_top, fr_pl, pu_int, pu_bl, pu_str, pu_non, pu_tup, pu_lst, pu_nil, pu_cons, pe_lst', no_nil, no_cons, al_nil, al_cons, od_rt, od_nx, ofO_some, d_add, d_sub, d_mul, d_div, d_mod, d_cat, d_catT, c_eqI, c_neI, c_lt, c_le, c_gt, c_ge, List.map_cons, List.map_nil, List.length_cons, List.length_nil, List.getElem?_cons_zero, List.getElem?_cons_succ, List.set_cons_zero, List.set_cons_succ, List.cons_append, List.nil_append, List.append_nil, List.replicate, Nat.reduceAdd, Nat.reduceSub, Bool.true_and, Bool.and_true, Bool.false_and, Bool.and_false, Bool.true_or, Bool.or_true, Bool.false_or, Bool.or_false, Bool.not_true, Bool.not_false, if_true, if_false, Bool.false_eq_true, reduceIte, e1]
    apply seq_rt
    have e3 : dBlt .tuple [rD r] = .ok (.tup (r.map D.int)) := rfl
    simp (disch := (first | trivial | omega | (simp only [true_and, and_true, lim, List.length_cons, List.length_nil, List.length_map, List.length_append] <;> first | trivial | omega) | assumption)) only [asOwn, asOwnL, runB, evSs, evS, evE, evEs, evB, evIt, isV, isNo, bind_ok, bind_ex, guard_t, env0, mk_lst, mk_dct, mk_tup, mk_frz, mk_int, mk_bl, mk_str, mk_non, el_lst, el_dct, el_tup, el_frz, el_int, el_bl, el_str, el_non, new_own, new_top, new_pl, io_own, io_top, io_pl, asB_bl, asI_int, ent_top, ent_pl, fr_own, fr_top, fr_pl, pu_int, pu_bl, pu_str, pu_non, pu_tup, pu_lst, pu_nil, pu_cons, pe_lst', no_nil, no_cons, al_nil, al_cons, od_rt, od_nx, ofO_some, d_add, d_sub, d_mul, d_div, d_mod, d_cat, d_catT, c_eqI, c_neI, c_lt, c_le, c_gt, c_ge, List.map_cons, List.map_nil, List.length_cons, List.length_nil, List.getElem?_cons_zero, List.getElem?_cons_succ, List.set_cons_zero, List.set_cons_succ, List.cons_append, List.nil_append, List.append_nil, List.replicate, Nat.reduceAdd, Nat.reduceSub, Bool.true_and, Bool.and_true, Bool.false_and, Bool.and_false, Bool.true_or, Bool.or_true, Bool.false_or, Bool.or_false, Bool.not_true, Bool.not_false, if_true, if_false, Bool.false_eq_true, reduceIte, e2, el_r, e3, pureL_ints]
    rfl
end PyV
namespace PyV
open PySem L2
/-! ### drawn sets -/
def tab10 (j : Nat) : Int := match j with
  | 0 => 1
  | 1 => 3
  | 2 => 9
  | 3 => 27
  | 4 => 81
  | 5 => 243
  | 6 => 729
  | 7 => 2187
  | 8 => 6561
  | _ => 19683
theorem tab10_at {j : Nat} (h : j < 10) : dIx (.lst [.int 1, .int 3, .int 9, .int 27, .int 81, .int 243, .int 729, .int 2187, .int 6561, .int 19683]) (.int j) = .ok (.int (tab10 j)) := by
  have h4 : j = 0 ∨ j = 1 ∨ j = 2 ∨ j = 3 ∨ j = 4 ∨ j = 5 ∨ j = 6 ∨ j = 7 ∨ j = 8 ∨ j = 9 := by omega
  rcases h4 with h | h | h | h | h | h | h | h | h | h <;> subst h <;> rfl
theorem tab10_pos (j : Nat) : 0 < tab10 j ∧ tab10 j < 1073741824 := by
  unfold tab10
  split <;> decide
theorem compM_filter {f : D → M (Option R)} {n : Nat} (p : Nat → Bool) (g : Nat → R) (h : ∀ j : Nat, j < n → f (.int j) = .ok (if p j then some (g j) else none)) : compM f (rngD 0 (n : Int)) = .ok (((List.range n).filter p).map g) := by
  have e : rngD 0 (n : Int) = (List.range n).map fun j : Nat => D.int j := by
    unfold rngD
    rw [show ((n : Int) - 0).toNat = n by omega]
    simp
  rw [e]
  have : ∀ l : List Nat, (∀ j ∈ l, j < n) → compM f (l.map fun j : Nat => D.int j) = .ok ((l.filter p).map g) := by
    intro l
    induction l with
    | nil => intro _; rfl
    | cons j l ih =>
      intro hl
      show (f (.int j)).bind _ = _
      rw [h j (hl j List.mem_cons_self), bind_ok, ih fun x hx => hl x (List.mem_cons_of_mem _ hx), bind_ok]
      by_cases hp : p j = true
      · rw [if_pos hp, List.filter_cons_of_pos hp]; rfl
      · rw [if_neg hp, List.filter_cons_of_neg hp]; rfl
  exact this _ fun j hj => List.mem_range.mp hj
theorem set_filter (p : Nat → Bool) : ∀ (m n a : Nat), a + m ≤ n → SetFrom n ((a : Int) - 1) (((List.range' a m).filter p).map fun j : Nat => (j : Int)) ∧ ∀ b : Int, b ≤ (a : Int) - 1 → SetFrom n b (((List.range' a m).filter p).map fun j : Nat => (j : Int))
  | 0, n, a, _ => ⟨trivial, fun _ _ => trivial⟩
  | m + 1, n, a, h => by
    have ih := set_filter p m n (a + 1) (by omega)
    rw [List.range'_succ]
    by_cases hp : p a = true
    · rw [List.filter_cons_of_pos hp, List.map_cons]
      have ih1 := ih.1
      rw [show ((a + 1 : Nat) : Int) - 1 = (a : Int) by omega] at ih1
      exact ⟨⟨⟨by omega, by omega⟩, ih1⟩, fun b hb => ⟨⟨by omega, by omega⟩, ih1⟩⟩
    · rw [List.filter_cons_of_neg hp]
      exact ⟨ih.2 _ (by omega), fun b hb => ih.2 b (by omega)⟩
def ldrawnF : Fn := ⟨2, 4, (.cons (.set 2 false (.lst (.cons (.ki 1) (.cons (.ki 3) (.cons (.ki 9) (.cons (.ki 27) (.cons (.ki 81) (.cons (.ki 243) (.cons (.ki 729) (.cons (.ki 2187) (.cons (.ki 6561) (.cons (.ki 19683) .nil)))))))))))) (.cons (.ret (.bl .tuple (.cons (.lc (.v 3) [3] (.r1 (.v 1)) (.cmp .Eq (.bin .Mod (.bin .FloorDiv (.v 0) (.ix (.v 2) (.v 3))) (.ki 3)) (.ki 1))) .nil))) .nil))⟩
theorem run_ldrawn (S : Sig) (c : Int) {n : Nat} (hn : n ≤ 10) : ∃ br : List Int, SetFrom n (-1) br ∧ runB S ldrawnF [.int c, .int n] = .ok (bD br) := by
  refine ⟨((List.range n).filter fun j => decide (c / tab10 j % 3 = 1)).map fun j : Nat => (j : Int), ?_, ?_⟩
  · have := (set_filter (fun j => decide (c / tab10 j % 3 = 1)) n n 0 (by omega)).1
    rw [List.range_eq_range']
    exact this
  · unfold ldrawnF
    refine run_rt ?_
    (apply seq_step; focus (simp (disch := (first | trivial | omega | (simp only [true_and, and_true, lim, List.length_cons, List.length_nil, List.length_map, List.length_append] <;> first | trivial | omega) | assumption)) only [asOwn, asOwnL, runB, evSs, evS, evE, evEs, evB, evIt, isV, isNo, bind_ok, bind_ex, guard_t, env0, mk_lst, mk_dct, mk_tup, mk_frz, mk_int, mk_bl, mk_str, mk_non, el_lst, el_dct, el_tup, el_frz, el_int, el_bl, el_str, el_non, new_own, new_top, new_pl, io_own, io_top, io_pl, asB_bl, asI_int, ent_top, ent_pl, fr_own, fr_top, fr_pl, pu_int, pu_bl, pu_str, pu_non, pu_tup, pu_lst, pu_nil, pu_cons, pe_lst', no_nil, no_cons, al_nil, al_cons, od_rt, od_nx, ofO_some, d_add, d_sub, d_mul, d_div, d_mod, d_cat, d_catT, c_eqI, c_neI, c_lt, c_le, c_gt, c_ge, List.map_cons, List.map_nil, List.length_cons, List.length_nil, List.getElem?_cons_zero, List.getElem?_cons_succ, List.set_cons_zero, List.set_cons_succ, List.cons_append, List.nil_append, List.append_nil, List.replicate, Nat.reduceAdd, Nat.reduceSub, Bool.true_and, Bool.and_true, Bool.false_and, Bool.and_false, Bool.true_or, Bool.or_true, Bool.false_or, Bool.or_false, Bool.not_true, Bool.not_false, if_true, if_false, Bool.false_eq_true, reduceIte]; exact rfl))
    apply seq_rt
    rw [evS, evE, evEs, lc_r1 (n := n) (kd := .pl false) (rs := ((List.range n).filter fun j => decide (c / tab10 j % 3 = 1)).map fun j : Nat => (.pl true, .int j)) (by simp (disch := (first | trivial | omega | (simp only [true_and, and_true, lim, List.length_cons, List.length_nil, List.length_map, List.length_append] <;> first | trivial | omega) | assumption)) only [asOwn, asOwnL, runB, evSs, evS, evE, evEs, evB, evIt, isV, isNo, bind_ok, bind_ex, guard_t, env0, mk_lst, mk_dct, mk_tup, mk_frz, mk_int, mk_bl, mk_str, mk_non, el_lst, el_dct, el_tup, el_frz, el_int, el_bl, el_str, el_non, new_own, new_top, new_pl, io_own, io_top, io_pl, asB_bl, asI_int, ent_top, ent_pl, fr_own, fr_top, fr_pl, pu_int, pu_bl, pu_str, pu_non, pu_tup, pu_lst, pu_nil, pu_cons, pe_lst', no_nil, no_cons, al_nil, al_cons, od_rt, od_nx, ofO_some, d_add, d_sub, d_mul, d_div, d_mod, d_cat, d_catT, c_eqI, c_neI, c_lt, c_le, c_gt, c_ge, List.map_cons, List.map_nil, List.length_cons, List.length_nil, List.getElem?_cons_zero, List.getElem?_cons_succ, List.set_cons_zero, List.set_cons_succ, List.cons_append, List.nil_append, List.append_nil, List.replicate, Nat.reduceAdd, Nat.reduceSub, Bool.true_and, Bool.and_true, Bool.false_and, Bool.and_false, Bool.true_or, Bool.or_true, Bool.false_or, Bool.or_false, Bool.not_true, Bool.not_false, if_true, if_false, Bool.false_eq_true, reduceIte]) (by omega) rfl (noOwn_map _ _ fun _ _ => rfl) (compM_filter (fun j => decide (c / tab10 j % 3 = 1)) _ fun j hj => by
      have e1 := tab10_at (j := j) (by omega)
      obtain ⟨e2, e3⟩ := tab10_pos j
      by_cases hq : c / tab10 j % 3 = 1
      · simp (disch := (first | trivial | omega | (simp only [true_and, and_true, lim, List.length_cons, List.length_nil, List.length_map, List.length_append] <;> first | trivial | omega) | assumption)) only [asOwn, asOwnL, runB, evSs, evS, evE, evEs, evB, evIt, isV, isNo, bind_ok, bind_ex, guard_t, env0, mk_lst, mk_dct, mk_tup, mk_frz, mk_int, mk_bl, mk_str, mk_non, el_lst, el_dct, el_tup, el_frz, el_int, el_bl, el_str, el_non, new_own, new_top, new_pl, io_own, io_top, io_pl, asB_bl, asI_int, ent_top, ent_pl, fr_own, fr_top, fr_pl, pu_int, pu_bl, pu_str, pu_non, pu_tup, pu_lst, pu_nil, pu_cons, pe_lst', no_nil, no_cons, al_nil, al_cons, od_rt, od_nx, ofO_some, d_add, d_sub, d_mul, d_div, d_mod, d_cat, d_catT, c_eqI, c_neI, c_lt, c_le, c_gt, c_ge, List.map_cons, List.map_nil, List.length_cons, List.length_nil, List.getElem?_cons_zero, List.getElem?_cons_succ, List.set_cons_zero, List.set_cons_succ, List.cons_append, List.nil_append, List.append_nil, List.replicate, Nat.reduceAdd, Nat.reduceSub, Bool.true_and, Bool.and_true, Bool.false_and, Bool.and_false, Bool.true_or, Bool.or_true, Bool.false_or, Bool.or_false, Bool.not_true, Bool.not_false, if_true, if_false, Bool.false_eq_true, reduceIte, bindT_1, setE_int, wipe_1, e1, hq, eq_self, decide_true]
      · simp (disch := (first | trivial | omega | (simp only [true_and, and_true, lim, List.length_cons, List.length_nil, List.length_map, List.length_append] <;> first | trivial | omega) | assumption)) only [asOwn, asOwnL, runB, evSs, evS, evE, evEs, evB, evIt, isV, isNo, bind_ok, bind_ex, guard_t, env0, mk_lst, mk_dct, mk_tup, mk_frz, mk_int, mk_bl, mk_str, mk_non, el_lst, el_dct, el_tup, el_frz, el_int, el_bl, el_str, el_non, new_own, new_top, new_pl, io_own, io_top, io_pl, asB_bl, asI_int, ent_top, ent_pl, fr_own, fr_top, fr_pl, pu_int, pu_bl, pu_str, pu_non, pu_tup, pu_lst, pu_nil, pu_cons, pe_lst', no_nil, no_cons, al_nil, al_cons, od_rt, od_nx, ofO_some, d_add, d_sub, d_mul, d_div, d_mod, d_cat, d_catT, c_eqI, c_neI, c_lt, c_le, c_gt, c_ge, List.map_cons, List.map_nil, List.length_cons, List.length_nil, List.getElem?_cons_zero, List.getElem?_cons_succ, List.set_cons_zero, List.set_cons_succ, List.cons_append, List.nil_append, List.append_nil, List.replicate, Nat.reduceAdd, Nat.reduceSub, Bool.true_and, Bool.and_true, Bool.false_and, Bool.and_false, Bool.true_or, Bool.or_true, Bool.false_or, Bool.or_false, Bool.not_true, Bool.not_false, if_true, if_false, Bool.false_eq_true, reduceIte, bindT_1, setE_int, wipe_1, e1, hq, decide_false])]
    have e5 : allNew (((List.range n).filter fun j => decide (c / tab10 j % 3 = 1)).map fun j : Nat => ((Kd.pl true, D.int j) : R)) = true := allNew_map _ _ fun _ _ => rfl
    simp (disch := (first | trivial | omega | (simp only [true_and, and_true, lim, List.length_cons, List.length_nil, List.length_map, List.length_append] <;> first | trivial | omega) | assumption)) only [asOwn, asOwnL, runB, evSs, evS, evE, evEs, evB, evIt, isV, isNo, bind_ok, bind_ex, guard_t, env0, mk_lst, mk_dct, mk_tup, mk_frz, mk_int, mk_bl, mk_str, mk_non, el_lst, el_dct, el_tup, el_frz, el_int, el_bl, el_str, el_non, new_own, new_top, new_pl, io_own, io_top, io_pl, asB_bl, asI_int, ent_top, ent_pl, fr_own, fr_top, fr_pl, pu_int, pu_bl, pu_str, pu_non, pu_tup, pu_lst, pu_nil, pu_cons, pe_lst', no_nil, no_cons, al_nil, al_cons, od_rt, od_nx, ofO_some, d_add, d_sub, d_mul, d_div, d_mod, d_cat, d_catT, c_eqI, c_neI, c_lt, c_le, c_gt, c_ge, List.map_cons, List.map_nil, List.length_cons, List.length_nil, List.getElem?_cons_zero, List.getElem?_cons_succ, List.set_cons_zero, List.set_cons_succ, List.cons_append, List.nil_append, List.append_nil, List.replicate, Nat.reduceAdd, Nat.reduceSub, Bool.true_and, Bool.and_true, Bool.false_and, Bool.and_false, Bool.true_or, Bool.or_true, Bool.false_or, Bool.or_false, Bool.not_true, Bool.not_false, if_true, if_false, Bool.false_eq_true, reduceIte, e5, tup_lst, List.map_map]
    unfold bD
    rw [List.map_map]
    rfl
end PyV
namespace PyV
open PySem L2
theorem and_t {S : Sig} {a b : IE} {es : IEs} {ρ : PyV.Env} {k : Kd} {r : M R} (h : evE S a ρ = .ok (k, .bl true)) (g : evE S (.bop .And (.cons b es)) ρ = r) : evE S (.bop .And (.cons a (.cons b es))) ρ = r := by
  rw [evE] at g ⊢
  rw [evB, h]
  exact g
theorem and_1 {S : Sig} {a : IE} {ρ : PyV.Env} {r : M R} (h : evE S a ρ = r) : evE S (.bop .And (.cons a .nil)) ρ = r := by
  rw [evE, evB, h]
theorem ret_ev {S : Sig} {a : IE} {ρ : PyV.Env} {d : D} {n : Bool} (h : evE S a ρ = .ok (.pl n, d)) (hf : (n || pureD d) = true) : evS S (.ret a) ρ = .ok (.rt d) := by
  rw [evS, h, bind_ok]
  exact guard_t hf
def lsameF (wh : Nat) : Fn := ⟨2, 3, (.cons (.iff (.cmp .Is (.v 1) .kn) (.cons (.ret (.cmp .Is (.v 0) .kn)) .nil) .nil) (.cons (.ret (.bop .And (.cons (.bl .isi (.cons (.v 0) (.cons (.ty "tuple") .nil))) (.cons (.cmp .Eq (.v 0) (.v 1)) (.cons (.cmp .Eq (.lc (.v 2) [2] (.sq (.v 0)) (.nt (.call wh (.cons (.v 2) .nil)))) (.lst .nil)) .nil))))) .nil))⟩
theorem compM_none {f : D → M (Option R)} : ∀ {xs : List D}, (∀ x ∈ xs, f x = .ok none) → compM f xs = .ok []
  | [], _ => rfl
  | x :: xs, h => by
    show (f x).bind _ = _
    rw [h x List.mem_cons_self, bind_ok, compM_none fun y hy => h y (List.mem_cons_of_mem _ hy)]
    rfl
theorem run_lsame (S : Sig) (wh : Nat) (hS : ∀ i : Int, S.call wh [.int i] = .ok (.bl true)) (o : Option (List Int)) (hn : ∀ r, o = some r → r.length < 1000) : runB S (lsameF wh) [optD o, optD o] = .ok (.bl true) := by
  unfold lsameF
  refine run_rt ?_
  cases o with
  | none =>
    show evSs S _ (env0 3 [.non, .non]) = _
    apply seq_rt
    refine if_t (k := .pl true) ?_ (seq_rt ?_)
    · simp (disch := (first | trivial | omega | (simp only [true_and, and_true, lim, List.length_cons, List.length_nil, List.length_map, List.length_append] <;> first | trivial | omega) | assumption)) only [asOwn, asOwnL, runB, evSs, evS, evE, evEs, evB, evIt, isV, isNo, bind_ok, bind_ex, guard_t, env0, mk_lst, mk_dct, mk_tup, mk_frz, mk_int, mk_bl, mk_str, mk_non, el_lst, el_dct, el_tup, el_frz, el_int, el_bl, el_str, el_non, new_own, new_top, new_pl, io_own, io_top, io_pl, asB_bl, asI_int, ent_top, ent_pl, fr_own, fr_top, fr_pl, pu_int, pu_bl, pu_str, pu_non, pu_tup, pu_lst, pu_nil, pu_cons, pe_lst', no_nil, no_cons, al_nil, al_cons, od_rt, od_nx, ofO_some, d_add, d_sub, d_mul, d_div, d_mod, d_cat, d_catT, c_eqI, c_neI, c_lt, c_le, c_gt, c_ge, List.map_cons, List.map_nil, List.length_cons, List.length_nil, List.getElem?_cons_zero, List.getElem?_cons_succ, List.set_cons_zero, List.set_cons_succ, List.cons_append, List.nil_append, List.append_nil, List.replicate, Nat.reduceAdd, Nat.reduceSub, Bool.true_and, Bool.and_true, Bool.false_and, Bool.and_false, Bool.true_or, Bool.or_true, Bool.false_or, Bool.or_false, Bool.not_true, Bool.not_false, if_true, if_false, Bool.false_eq_true, reduceIte, c_is_non]
    · simp (disch := (first | trivial | omega | (simp only [true_and, and_true, lim, List.length_cons, List.length_nil, List.length_map, List.length_append] <;> first | trivial | omega) | assumption)) only [asOwn, asOwnL, runB, evSs, evS, evE, evEs, evB, evIt, isV, isNo, bind_ok, bind_ex, guard_t, env0, mk_lst, mk_dct, mk_tup, mk_frz, mk_int, mk_bl, mk_str, mk_non, el_lst, el_dct, el_tup, el_frz, el_int, el_bl, el_str, el_non, new_own, new_top, new_pl, io_own, io_top, io_pl, asB_bl, asI_int, ent_top, ent_pl, fr_own, fr_top, fr_pl, pu_int, pu_bl, pu_str, pu_non, pu_tup, pu_lst, pu_nil, pu_cons, pe_lst', no_nil, no_cons, al_nil, al_cons, od_rt, od_nx, ofO_some, d_add, d_sub, d_mul, d_div, d_mod, d_cat, d_catT, c_eqI, c_neI, c_lt, c_le, c_gt, c_ge, List.map_cons, List.map_nil, List.length_cons, List.length_nil, List.getElem?_cons_zero, List.getElem?_cons_succ, List.set_cons_zero, List.set_cons_succ, List.cons_append, List.nil_append, List.append_nil, List.replicate, Nat.reduceAdd, Nat.reduceSub, Bool.true_and, Bool.and_true, Bool.false_and, Bool.and_false, Bool.true_or, Bool.or_true, Bool.false_or, Bool.or_false, Bool.not_true, Bool.not_false, if_true, if_false, Bool.false_eq_true, reduceIte, c_is_non]
  | some r =>
    show evSs S _ (env0 3 [.tup (r.map D.int), .tup (r.map D.int)]) = _
    have hr := hn r rfl
    have e1 : dCmp .Eq (.tup (r.map D.int)) (.tup (r.map D.int)) = .ok (.bl true) := c_eq_self (nice_tints r)
    apply seq_step
    · refine if_f (k := .pl true) ?_ seq_nil
      simp (disch := (first | trivial | omega | (simp only [true_and, and_true, lim, List.length_cons, List.length_nil, List.length_map, List.length_append] <;> first | trivial | omega) | assumption)) only [asOwn, asOwnL, runB, evSs, evS, evE, evEs, evB, evIt, isV, isNo, bind_ok, bind_ex, guard_t, env0, mk_lst, mk_dct, mk_tup, mk_frz, mk_int, mk_bl, mk_str, mk_non, el_lst, el_dct, el_tup, el_frz, el_int, el_bl, el_str, el_non, new_own, new_top, new_pl, io_own, io_top, io_pl, asB_bl, asI_int, ent_top, ent_pl, fr_own, fr_top, fr_pl, pu_int, pu_bl, pu_str, pu_non, pu_tup, pu_lst, pu_nil, pu_cons, pe_lst', no_nil, no_cons, al_nil, al_cons, od_rt, od_nx, ofO_some, d_add, d_sub, d_mul, d_div, d_mod, d_cat, d_catT, c_eqI, c_neI, c_lt, c_le, c_gt, c_ge, List.map_cons, List.map_nil, List.length_cons, List.length_nil, List.getElem?_cons_zero, List.getElem?_cons_succ, List.set_cons_zero, List.set_cons_succ, List.cons_append, List.nil_append, List.append_nil, List.replicate, Nat.reduceAdd, Nat.reduceSub, Bool.true_and, Bool.and_true, Bool.false_and, Bool.and_false, Bool.true_or, Bool.or_true, Bool.false_or, Bool.or_false, Bool.not_true, Bool.not_false, if_true, if_false, Bool.false_eq_true, reduceIte, c_is_tup]
    apply seq_rt
    have e2 := isi_tt (r.map D.int)
    have e3 : evE S (.lc (.v 2) [2] (.sq (.v 0)) (.nt (.call wh (.cons (.v 2) .nil)))) (env0 3 [.tup (r.map D.int), .tup (r.map D.int)]) = .ok (.top true, .lst []) := by
      rw [lc_sq (kd := .pl false) (x := .tup (r.map D.int)) (xs := r.map D.int) (rs := []) (by simp (disch := (first | trivial | omega | (simp only [true_and, and_true, lim, List.length_cons, List.length_nil, List.length_map, List.length_append] <;> first | trivial | omega) | assumption)) only [asOwn, asOwnL, runB, evSs, evS, evE, evEs, evB, evIt, isV, isNo, bind_ok, bind_ex, guard_t, env0, mk_lst, mk_dct, mk_tup, mk_frz, mk_int, mk_bl, mk_str, mk_non, el_lst, el_dct, el_tup, el_frz, el_int, el_bl, el_str, el_non, new_own, new_top, new_pl, io_own, io_top, io_pl, asB_bl, asI_int, ent_top, ent_pl, fr_own, fr_top, fr_pl, pu_int, pu_bl, pu_str, pu_non, pu_tup, pu_lst, pu_nil, pu_cons, pe_lst', no_nil, no_cons, al_nil, al_cons, od_rt, od_nx, ofO_some, d_add, d_sub, d_mul, d_div, d_mod, d_cat, d_catT, c_eqI, c_neI, c_lt, c_le, c_gt, c_ge, List.map_cons, List.map_nil, List.length_cons, List.length_nil, List.getElem?_cons_zero, List.getElem?_cons_succ, List.set_cons_zero, List.set_cons_succ, List.cons_append, List.nil_append, List.append_nil, List.replicate, Nat.reduceAdd, Nat.reduceSub, Bool.true_and, Bool.and_true, Bool.false_and, Bool.and_false, Bool.true_or, Bool.or_true, Bool.false_or, Bool.or_false, Bool.not_true, Bool.not_false, if_true, if_false, Bool.false_eq_true, reduceIte]) rfl (by rw [List.length_map]; omega) rfl rfl (compM_none fun x hx => by
        obtain ⟨i, _, rfl⟩ := List.mem_map.mp hx
        simp (disch := (first | trivial | omega | (simp only [true_and, and_true, lim, List.length_cons, List.length_nil, List.length_map, List.length_append] <;> first | trivial | omega) | assumption)) only [asOwn, asOwnL, runB, evSs, evS, evE, evEs, evB, evIt, isV, isNo, bind_ok, bind_ex, guard_t, env0, mk_lst, mk_dct, mk_tup, mk_frz, mk_int, mk_bl, mk_str, mk_non, el_lst, el_dct, el_tup, el_frz, el_int, el_bl, el_str, el_non, new_own, new_top, new_pl, io_own, io_top, io_pl, asB_bl, asI_int, ent_top, ent_pl, fr_own, fr_top, fr_pl, pu_int, pu_bl, pu_str, pu_non, pu_tup, pu_lst, pu_nil, pu_cons, pe_lst', no_nil, no_cons, al_nil, al_cons, od_rt, od_nx, ofO_some, d_add, d_sub, d_mul, d_div, d_mod, d_cat, d_catT, c_eqI, c_neI, c_lt, c_le, c_gt, c_ge, List.map_cons, List.map_nil, List.length_cons, List.length_nil, List.getElem?_cons_zero, List.getElem?_cons_succ, List.set_cons_zero, List.set_cons_succ, List.cons_append, List.nil_append, List.append_nil, List.replicate, Nat.reduceAdd, Nat.reduceSub, Bool.true_and, Bool.and_true, Bool.false_and, Bool.and_false, Bool.true_or, Bool.or_true, Bool.false_or, Bool.or_false, Bool.not_true, Bool.not_false, if_true, if_false, Bool.false_eq_true, reduceIte, bindT_1, setE_int, wipe_1, hS])]
      rfl
    refine ret_ev (n := true) (and_t (k := .pl true) ?_ (and_t (k := .pl true) ?_ (and_1 ?_))) rfl
    · simp (disch := (first | trivial | omega | (simp only [true_and, and_true, lim, List.length_cons, List.length_nil, List.length_map, List.length_append] <;> first | trivial | omega) | assumption)) only [asOwn, asOwnL, runB, evSs, evS, evE, evEs, evB, evIt, isV, isNo, bind_ok, bind_ex, guard_t, env0, mk_lst, mk_dct, mk_tup, mk_frz, mk_int, mk_bl, mk_str, mk_non, el_lst, el_dct, el_tup, el_frz, el_int, el_bl, el_str, el_non, new_own, new_top, new_pl, io_own, io_top, io_pl, asB_bl, asI_int, ent_top, ent_pl, fr_own, fr_top, fr_pl, pu_int, pu_bl, pu_str, pu_non, pu_tup, pu_lst, pu_nil, pu_cons, pe_lst', no_nil, no_cons, al_nil, al_cons, od_rt, od_nx, ofO_some, d_add, d_sub, d_mul, d_div, d_mod, d_cat, d_catT, c_eqI, c_neI, c_lt, c_le, c_gt, c_ge, List.map_cons, List.map_nil, List.length_cons, List.length_nil, List.getElem?_cons_zero, List.getElem?_cons_succ, List.set_cons_zero, List.set_cons_succ, List.cons_append, List.nil_append, List.append_nil, List.replicate, Nat.reduceAdd, Nat.reduceSub, Bool.true_and, Bool.and_true, Bool.false_and, Bool.and_false, Bool.true_or, Bool.or_true, Bool.false_or, Bool.or_false, Bool.not_true, Bool.not_false, if_true, if_false, Bool.false_eq_true, reduceIte, e2]
    · simp (disch := (first | trivial | omega | (simp only [true_and, and_true, lim, List.length_cons, List.length_nil, List.length_map, List.length_append] <;> first | trivial | omega) | assumption)) only [asOwn, asOwnL, runB, evSs, evS, evE, evEs, evB, evIt, isV, isNo, bind_ok, bind_ex, guard_t, env0, mk_lst, mk_dct, mk_tup, mk_frz, mk_int, mk_bl, mk_str, mk_non, el_lst, el_dct, el_tup, el_frz, el_int, el_bl, el_str, el_non, new_own, new_top, new_pl, io_own, io_top, io_pl, asB_bl, asI_int, ent_top, ent_pl, fr_own, fr_top, fr_pl, pu_int, pu_bl, pu_str, pu_non, pu_tup, pu_lst, pu_nil, pu_cons, pe_lst', no_nil, no_cons, al_nil, al_cons, od_rt, od_nx, ofO_some, d_add, d_sub, d_mul, d_div, d_mod, d_cat, d_catT, c_eqI, c_neI, c_lt, c_le, c_gt, c_ge, List.map_cons, List.map_nil, List.length_cons, List.length_nil, List.getElem?_cons_zero, List.getElem?_cons_succ, List.set_cons_zero, List.set_cons_succ, List.cons_append, List.nil_append, List.append_nil, List.replicate, Nat.reduceAdd, Nat.reduceSub, Bool.true_and, Bool.and_true, Bool.false_and, Bool.and_false, Bool.true_or, Bool.or_true, Bool.false_or, Bool.or_false, Bool.not_true, Bool.not_false, if_true, if_false, Bool.false_eq_true, reduceIte, e1]
    · rw [evE, e3, bind_ok]
      simp (disch := (first | trivial | omega | (simp only [true_and, and_true, lim, List.length_cons, List.length_nil, List.length_map, List.length_append] <;> first | trivial | omega) | assumption)) only [asOwn, asOwnL, runB, evSs, evS, evE, evEs, evB, evIt, isV, isNo, bind_ok, bind_ex, guard_t, env0, mk_lst, mk_dct, mk_tup, mk_frz, mk_int, mk_bl, mk_str, mk_non, el_lst, el_dct, el_tup, el_frz, el_int, el_bl, el_str, el_non, new_own, new_top, new_pl, io_own, io_top, io_pl, asB_bl, asI_int, ent_top, ent_pl, fr_own, fr_top, fr_pl, pu_int, pu_bl, pu_str, pu_non, pu_tup, pu_lst, pu_nil, pu_cons, pe_lst', no_nil, no_cons, al_nil, al_cons, od_rt, od_nx, ofO_some, d_add, d_sub, d_mul, d_div, d_mod, d_cat, d_catT, c_eqI, c_neI, c_lt, c_le, c_gt, c_ge, List.map_cons, List.map_nil, List.length_cons, List.length_nil, List.getElem?_cons_zero, List.getElem?_cons_succ, List.set_cons_zero, List.set_cons_succ, List.cons_append, List.nil_append, List.append_nil, List.replicate, Nat.reduceAdd, Nat.reduceSub, Bool.true_and, Bool.and_true, Bool.false_and, Bool.and_false, Bool.true_or, Bool.or_true, Bool.false_or, Bool.or_false, Bool.not_true, Bool.not_false, if_true, if_false, Bool.false_eq_true, reduceIte, eq_nil0]
end PyV
namespace PyV
open PySem L2
/-! ### drawn looks -/
def InR (ring : Int) (ds : List Int) : Prop := ∀ d ∈ ds, 0 ≤ d ∧ d < ring
theorem dig_in {ring : Int} {ds : List Int} (h : InR ring ds) {j : Int} (hj : 0 ≤ j ∧ j < ds.length) : 0 ≤ dig ds j ∧ dig ds j < ring := by
  unfold dig
  rw [List.getD_eq_getElem?_getD, List.getElem?_eq_getElem (by omega : j.toNat < ds.length)]
  exact h _ (List.getElem_mem _)
theorem val_in {ring : Int} (hr : 0 < ring) {ds : List Int} (h : InR ring ds) {p : Pt} (hp : p.ok ds.length) : 0 ≤ p.val ring ds ∧ p.val ring ds < ring :=
  Pt.cases (P := fun p => 0 ≤ p.val ring ds ∧ p.val ring ds < ring) hp
    (fun a ha => by have := dig_in h ha; simp [Pt.val, Wd.val]; omega)
    (fun a b ha hb => by simp [Pt.val, Wd.val]; exact ⟨Int.emod_nonneg _ (by omega), Int.emod_lt_of_pos _ hr⟩)
    (fun a b ha hb => by have := dig_in h ha; simp [Pt.val, Wd.val]; split <;> omega)
    (fun a b c ha hb hc => by have := dig_in h hb; have := dig_in h hc; simp [Pt.val, Wd.val]; split <;> omega)
theorem ran_in {w : Wk} (hw : w.ok) {t : List (Int × Int)} (ht : ∀ k v, lookI t k = some v → 0 ≤ v ∧ v < w.ring) : ∀ (ps : List Pt) (k : Nat) (ds : List Int), (∀ (j : Nat) (p : Pt), ps[j]? = some p → p.ok (ds.length + j)) → InR w.ring ds → InR w.ring (ranI w.ring t k ps ds)
  | [], _, _, _, h => h
  | p :: ps, k, ds, hp, h => by
    show InR w.ring (ranI w.ring t (k + 1) ps (ds ++ [ruleI w.ring t k p ds]))
    refine ran_in hw ht ps (k + 1) _ (fun j q hq => ?_) fun d hd => ?_
    · have := hp (j + 1) q (by simpa using hq)
      rw [List.length_append, List.length_cons, List.length_nil]
      rw [show ds.length + (0 + 1) + j = ds.length + (j + 1) by omega]
      exact this
    · rcases List.mem_append.mp hd with e | e
      · exact h d e
      · have e : d = ruleI w.ring t k p ds := by simpa using e
        subst e
        unfold ruleI
        have r2 := hw.r2
        cases hl : lookI t (k : Int) with
        | some v => exact ht _ _ hl
        | none => exact val_in (by omega) h (hp 0 p rfl)
theorem seen_snoc {w : Wk} {p : Int × Int} : ∀ {sn : List (Int × Int)} {a : Int}, SeenFrom w a sn → (∀ q ∈ sn, q.1 < p.1) → a < p.1 → p.1 < w.inp + w.parts.length → 0 ≤ p.2 → p.2 < w.ring → SeenFrom w a (sn ++ [p])
  | [], a, _, _, h1, h2, h3, h4 => ⟨⟨h1, h2, h3, h4⟩, trivial⟩
  | q :: sn, a, ⟨g1, g2⟩, hl, h1, h2, h3, h4 => ⟨g1, seen_snoc g2 (fun x hx => hl x (List.mem_cons_of_mem _ hx)) (hl q List.mem_cons_self) h2 h3 h4⟩
end PyV
namespace PyV
open PySem L2
def llookF (gv rn : Nat) : Fn := ⟨3, 12, (.cons (.set 3 false (.call gv (.cons (.v 0) (.cons (.v 1) .nil)))) (.cons (.set 4 false (.bl .len (.cons (.ix (.v 0) (.ki 2)) .nil))) (.cons (.set 5 true (.dct .nil)) (.cons (.forr [6] (.r1 (.bin .Mod (.v 2) (.ki 3))) (.cons (.set 9 false (.bin .Mod (.bin .FloorDiv (.bin .FloorDiv (.v 2) (.ki 3)) (.bin .Add (.ki 1) (.bin .Mult (.ki 6) (.v 6)))) (.v 4))) (.cons (.sub 5 (.v 9) (.bin .Mod (.bin .FloorDiv (.bin .FloorDiv (.v 2) (.ki 40)) (.bin .Add (.ki 1) (.bin .Mult (.ki 4) (.v 6)))) (.ix (.v 0) (.ki 0)))) .nil))) (.cons (.set 7 false (.call rn (.cons (.v 0) (.cons (.v 3) (.cons (.v 5) .nil))))) (.cons (.set 8 true (.lst .nil)) (.cons (.forr [6] (.r1 (.v 4)) (.cons (.set 10 false (.cmp .Eq (.bin .Mod (.bin .FloorDiv (.bin .FloorDiv (.v 2) (.ki 200)) (.bin .Add (.ki 1) (.v 6))) (.ki 3)) (.ki 1))) (.cons (.iff (.bop .Or (.cons (.v 10) (.cons (.bop .And (.cons (.cmp .Eq (.v 6) (.bin .Sub (.v 4) (.ki 1))) (.cons (.cmp .Gt (.bin .Mod (.bin .FloorDiv (.v 2) (.ki 7)) (.ki 4)) (.ki 0)) .nil))) .nil))) (.cons (.set 11 false (.ix (.v 7) (.bin .Add (.ix (.v 0) (.ki 1)) (.v 6)))) (.cons (.iff (.cmp .Eq (.bin .Mod (.bin .FloorDiv (.v 2) (.ki 11)) (.ki 9)) (.ki 5)) (.cons (.set 11 false (.bin .Mod (.bin .Add (.v 11) (.bin .FloorDiv (.v 2) (.bin .Add (.ki 13) (.v 6)))) (.ix (.v 0) (.ki 0)))) .nil) .nil) (.cons (.iff (.bop .And (.cons (.cmp .Gt (.bin .Mod (.bin .FloorDiv (.v 2) (.ki 11)) (.ki 9)) (.ki 5)) (.cons (.cmp .Eq (.v 6) (.bin .Sub (.v 4) (.ki 1))) .nil))) (.cons (.set 11 false (.bin .Mod (.bin .Add (.v 11) (.ki 1)) (.ix (.v 0) (.ki 0)))) .nil) .nil) (.cons (.app 8 (.tup (.cons (.bin .Add (.ix (.v 0) (.ki 1)) (.v 6)) (.cons (.v 11) .nil)))) .nil)))) .nil) .nil))) (.cons (.ret (.tup (.cons (.v 3) (.cons (.bl .tuple (.cons (.v 8) .nil)) .nil)))) .nil))))))))⟩
def llooksF (mx lk : Nat) : Fn := ⟨4, 8, (.cons (.set 4 true (.lst .nil)) (.cons (.forr [5] (.r1 (.bin .Mod (.call mx (.cons (.v 0) (.cons (.v 2) .nil))) (.bin .Add (.v 3) (.ki 1)))) (.cons (.set 6 false (.call mx (.cons (.v 0) (.cons (.bin .Add (.bin .Add (.v 2) (.ki 1)) (.bin .Mult (.ki 2) (.v 5))) .nil)))) (.cons (.set 7 false (.call mx (.cons (.v 0) (.cons (.bin .Add (.bin .Add (.v 2) (.ki 2)) (.bin .Mult (.ki 2) (.v 5))) .nil)))) (.cons (.app 4 (.call lk (.cons (.v 1) (.cons (.v 6) (.cons (.v 7) .nil))))) .nil)))) (.cons (.ret (.v 4)) .nil)))⟩
def ToldR (ring : Int) (t : List (Int × Int)) : Prop := ∀ k v, lookI t k = some v → 0 ≤ v ∧ v < ring
theorem told_put {ring : Int} {t : List (Int × Int)} (h : ToldR ring t) {k v : Int} (hv : 0 ≤ v ∧ v < ring) : ToldR ring (putI t k v) := by
  intro j u hj
  rw [look_put] at hj
  split at hj
  · cases hj; exact hv
  · exact h j u hj
theorem run_llook (S : Sig) (gv rn : Nat) {w : Wk} (hw : w.ok) {c m : Int} (hm : 0 ≤ m) {gs : List Int} (gl : gs.length = w.inp) (gb : ∀ g ∈ gs, 0 ≤ g ∧ g < w.ring) (h1 : S.call gv [w.D, .int c] = .ok (.tup (gs.map D.int)))
    (h2 : ∀ t : List (Int × Int), S.call rn [w.D, .tup (gs.map D.int), tD t] = .ok (.lst ((ranI w.ring t 0 w.parts gs).map D.int))) :
    ∃ sn, SeenFrom w (w.inp - 1) sn ∧ runB S (llookF gv rn) [w.D, .int c, .int m] = .ok (lD gs sn) := by
  have r2 := hw.r2
  have r5 := hw.r5
  have i6 := hw.i6
  have p1 := hw.p1
  have p10 := hw.p10
  have hpl : (0 : Int) < w.parts.length := by omega
  obtain ⟨n3, hn3⟩ : ∃ n : Nat, (n : Int) = m % 3 := ⟨(m % 3).toNat, by omega⟩
  have E1 := for_r1P (S := S) (ts := [6]) (a := .bin .Mod (.v 2) (.ki 3)) (body := (.cons (.set 9 false (.bin .Mod (.bin .FloorDiv (.bin .FloorDiv (.v 2) (.ki 3)) (.bin .Add (.ki 1) (.bin .Mult (.ki 6) (.v 6)))) (.v 4))) (.cons (.sub 5 (.v 9) (.bin .Mod (.bin .FloorDiv (.bin .FloorDiv (.v 2) (.ki 40)) (.bin .Add (.ki 1) (.bin .Mult (.ki 4) (.v 6)))) (.ix (.v 0) (.ki 0)))) .nil))) (n := n3) (kd := .pl true)
    (ρ := [some (.old, w.D), some (.old, .int c), some (.old, .int m), some (.new, .tup (gs.map D.int)), some (.new, .int w.parts.length), some (.own, tD []), none, none, none, none, none, none])
    (fun i ρ => ∃ t s6 s9, t.length ≤ i ∧ ToldR w.ring t ∧ ρ = [some (.old, w.D), some (.old, .int c), some (.old, .int m), some (.new, .tup (gs.map D.int)), some (.new, .int w.parts.length), some (.own, tD t), s6, none, none, s9, none, none])
    (by simp (disch := (first | trivial | omega | (simp only [true_and, and_true, lim, List.length_cons, List.length_nil, List.length_map, List.length_append] <;> first | trivial | omega) | assumption)) only [asOwn, asOwnL, runB, evSs, evS, evE, evEs, evB, evIt, isV, isNo, bind_ok, bind_ex, guard_t, env0, mk_lst, mk_dct, mk_tup, mk_frz, mk_int, mk_bl, mk_str, mk_non, el_lst, el_dct, el_tup, el_frz, el_int, el_bl, el_str, el_non, new_own, new_top, new_pl, io_own, io_top, io_pl, asB_bl, asI_int, ent_top, ent_pl, fr_own, fr_top, fr_pl, pu_int, pu_bl, pu_str, pu_non, pu_tup, pu_lst, pu_nil, pu_cons, pe_lst', no_nil, no_cons, al_nil, al_cons, od_rt, od_nx, ofO_some, d_add, d_sub, d_mul, d_div, d_mod, d_cat, d_catT, c_eqI, c_neI, c_lt, c_le, c_gt, c_ge, List.map_cons, List.map_nil, List.length_cons, List.length_nil, List.getElem?_cons_zero, List.getElem?_cons_succ, List.set_cons_zero, List.set_cons_succ, List.cons_append, List.nil_append, List.append_nil, List.replicate, Nat.reduceAdd, Nat.reduceSub, Bool.true_and, Bool.and_true, Bool.false_and, Bool.and_false, Bool.true_or, Bool.or_true, Bool.false_or, Bool.or_false, Bool.not_true, Bool.not_false, if_true, if_false, Bool.false_eq_true, reduceIte, hn3]) (by omega) ⟨[], none, none, Nat.le_refl _, fun k v h => (by cases h), rfl⟩ (by
    rintro j ρ hj ⟨t, s6, s9, tl, tr, rfl⟩
    have hs := fun k v => sub_t (t := t) (by omega) k v
    refine ⟨_, ?_, _, some (.new, .int j), some (.new, .int (m / 3 / (1 + 6 * j) % w.parts.length)), Nat.le_trans (putI_len t (m / 3 / (1 + 6 * j) % w.parts.length) (m / 40 / (1 + 4 * j) % w.ring)) (by omega), told_put tr ⟨Int.emod_nonneg _ (by omega), Int.emod_lt_of_pos _ (by omega)⟩, rfl⟩
    rw [bindT_1, bind_ok, setE_int]
    have d1 : ∀ x : Int, dBin .Mult (.int 6) (.int (j : Nat)) = .ok (.int (6 * (j : Int))) := fun _ => d_mull (by omega)
    apply seq_step
    · simp (disch := (first | trivial | omega | (simp only [true_and, and_true, lim, List.length_cons, List.length_nil, List.length_map, List.length_append] <;> first | trivial | omega) | assumption)) only [asOwn, asOwnL, runB, evSs, evS, evE, evEs, evB, evIt, isV, isNo, bind_ok, bind_ex, guard_t, env0, mk_lst, mk_dct, mk_tup, mk_frz, mk_int, mk_bl, mk_str, mk_non, el_lst, el_dct, el_tup, el_frz, el_int, el_bl, el_str, el_non, new_own, new_top, new_pl, io_own, io_top, io_pl, asB_bl, asI_int, ent_top, ent_pl, fr_own, fr_top, fr_pl, pu_int, pu_bl, pu_str, pu_non, pu_tup, pu_lst, pu_nil, pu_cons, pe_lst', no_nil, no_cons, al_nil, al_cons, od_rt, od_nx, ofO_some, d_add, d_sub, d_mul, d_div, d_mod, d_cat, d_catT, c_eqI, c_neI, c_lt, c_le, c_gt, c_ge, List.map_cons, List.map_nil, List.length_cons, List.length_nil, List.getElem?_cons_zero, List.getElem?_cons_succ, List.set_cons_zero, List.set_cons_succ, List.cons_append, List.nil_append, List.append_nil, List.replicate, Nat.reduceAdd, Nat.reduceSub, Bool.true_and, Bool.and_true, Bool.false_and, Bool.and_false, Bool.true_or, Bool.or_true, Bool.false_or, Bool.or_false, Bool.not_true, Bool.not_false, if_true, if_false, Bool.false_eq_true, reduceIte, d_mull]
      exact rfl
    refine seq_last ?_
    simp (disch := (first | trivial | omega | (simp only [true_and, and_true, lim, List.length_cons, List.length_nil, List.length_map, List.length_append] <;> first | trivial | omega) | assumption)) only [asOwn, asOwnL, runB, evSs, evS, evE, evEs, evB, evIt, isV, isNo, bind_ok, bind_ex, guard_t, env0, mk_lst, mk_dct, mk_tup, mk_frz, mk_int, mk_bl, mk_str, mk_non, el_lst, el_dct, el_tup, el_frz, el_int, el_bl, el_str, el_non, new_own, new_top, new_pl, io_own, io_top, io_pl, asB_bl, asI_int, ent_top, ent_pl, fr_own, fr_top, fr_pl, pu_int, pu_bl, pu_str, pu_non, pu_tup, pu_lst, pu_nil, pu_cons, pe_lst', no_nil, no_cons, al_nil, al_cons, od_rt, od_nx, ofO_some, d_add, d_sub, d_mul, d_div, d_mod, d_cat, d_catT, c_eqI, c_neI, c_lt, c_le, c_gt, c_ge, List.map_cons, List.map_nil, List.length_cons, List.length_nil, List.getElem?_cons_zero, List.getElem?_cons_succ, List.set_cons_zero, List.set_cons_succ, List.cons_append, List.nil_append, List.append_nil, List.replicate, Nat.reduceAdd, Nat.reduceSub, Bool.true_and, Bool.and_true, Bool.false_and, Bool.and_false, Bool.true_or, Bool.or_true, Bool.false_or, Bool.or_false, Bool.not_true, Bool.not_false, if_true, if_false, Bool.false_eq_true, reduceIte, d_mull, ixw0, hs])
  obtain ⟨ρ1, e1, t, s6, s9, tl, tr, rfl⟩ := E1
  have h2t := h2 t
  have fin : InR w.ring (ranI w.ring t 0 w.parts gs) := ran_in hw tr w.parts 0 gs (fun j p hp => by rw [gl]; exact hw.at_ j p hp) gb
  have fl : (ranI w.ring t 0 w.parts gs).length = w.inp + w.parts.length := by rw [ranI_len, gl]
  generalize ranI w.ring t 0 w.parts gs = F at h2t fin fl
  have E2 : ∃ ρ', evS S (.forr [6] (.r1 (.v 4)) (.cons (.set 10 false (.cmp .Eq (.bin .Mod (.bin .FloorDiv (.bin .FloorDiv (.v 2) (.ki 200)) (.bin .Add (.ki 1) (.v 6))) (.ki 3)) (.ki 1))) (.cons (.iff (.bop .Or (.cons (.v 10) (.cons (.bop .And (.cons (.cmp .Eq (.v 6) (.bin .Sub (.v 4) (.ki 1))) (.cons (.cmp .Gt (.bin .Mod (.bin .FloorDiv (.v 2) (.ki 7)) (.ki 4)) (.ki 0)) .nil))) .nil))) (.cons (.set 11 false (.ix (.v 7) (.bin .Add (.ix (.v 0) (.ki 1)) (.v 6)))) (.cons (.iff (.cmp .Eq (.bin .Mod (.bin .FloorDiv (.v 2) (.ki 11)) (.ki 9)) (.ki 5)) (.cons (.set 11 false (.bin .Mod (.bin .Add (.v 11) (.bin .FloorDiv (.v 2) (.bin .Add (.ki 13) (.v 6)))) (.ix (.v 0) (.ki 0)))) .nil) .nil) (.cons (.iff (.bop .And (.cons (.cmp .Gt (.bin .Mod (.bin .FloorDiv (.v 2) (.ki 11)) (.ki 9)) (.ki 5)) (.cons (.cmp .Eq (.v 6) (.bin .Sub (.v 4) (.ki 1))) .nil))) (.cons (.set 11 false (.bin .Mod (.bin .Add (.v 11) (.ki 1)) (.ix (.v 0) (.ki 0)))) .nil) .nil) (.cons (.app 8 (.tup (.cons (.bin .Add (.ix (.v 0) (.ki 1)) (.v 6)) (.cons (.v 11) .nil)))) .nil)))) .nil) .nil)))
      [some (.old, w.D), some (.old, .int c), some (.old, .int m), some (.new, .tup (gs.map D.int)), some (.new, .int w.parts.length), some (.own, tD t), s6, some (.new, .lst (F.map D.int)), some (.own, .lst []), s9, none, none] = .ok (.nx ρ') ∧
      ∃ sn s5 s6 s9 s10 s11, SeenFrom w (w.inp - 1) sn ∧ sn.length ≤ w.parts.length ∧ (∀ q ∈ sn, q.1 < (w.inp : Int) + w.parts.length) ∧ ρ' = [some (.old, w.D), some (.old, .int c), some (.old, .int m), some (.new, .tup (gs.map D.int)), some (.new, .int w.parts.length), s5, s6, some (.new, .lst (F.map D.int)), some (.own, .lst (sn.map pD)), s9, s10, s11] := by
    have branch : ∀ (j : Nat) (sn : List (Int × Int)) (b : Bool) (s5 s9 s11 : Option (Tg × D)), j < w.parts.length → sn.length ≤ j → ∃ d : Int, (0 ≤ d ∧ d < w.ring) ∧ evSs S (.cons (.set 11 false (.ix (.v 7) (.bin .Add (.ix (.v 0) (.ki 1)) (.v 6)))) (.cons (.iff (.cmp .Eq (.bin .Mod (.bin .FloorDiv (.v 2) (.ki 11)) (.ki 9)) (.ki 5)) (.cons (.set 11 false (.bin .Mod (.bin .Add (.v 11) (.bin .FloorDiv (.v 2) (.bin .Add (.ki 13) (.v 6)))) (.ix (.v 0) (.ki 0)))) .nil) .nil) (.cons (.iff (.bop .And (.cons (.cmp .Gt (.bin .Mod (.bin .FloorDiv (.v 2) (.ki 11)) (.ki 9)) (.ki 5)) (.cons (.cmp .Eq (.v 6) (.bin .Sub (.v 4) (.ki 1))) .nil))) (.cons (.set 11 false (.bin .Mod (.bin .Add (.v 11) (.ki 1)) (.ix (.v 0) (.ki 0)))) .nil) .nil) (.cons (.app 8 (.tup (.cons (.bin .Add (.ix (.v 0) (.ki 1)) (.v 6)) (.cons (.v 11) .nil)))) .nil))))
        [some (.old, w.D), some (.old, .int c), some (.old, .int m), some (.new, .tup (gs.map D.int)), some (.new, .int w.parts.length), s5, some (.new, .int j), some (.new, .lst (F.map D.int)), some (.own, .lst (sn.map pD)), s9, some (.new, .bl b), s11] =
        .ok (.nx [some (.old, w.D), some (.old, .int c), some (.old, .int m), some (.new, .tup (gs.map D.int)), some (.new, .int w.parts.length), s5, some (.new, .int j), some (.new, .lst (F.map D.int)), some (.own, .lst ((sn ++ [((w.inp : Int) + j, d)]).map pD)), s9, some (.new, .bl b), some (.new, .int d)]) := by
      intro j sn b s5 s9 s11 hj hsl
      have e1 : dIx (.lst (F.map D.int)) (.int ((w.inp : Int) + j)) = .ok (.int (dig F ((w.inp : Int) + j))) := ix_ints (by omega)
      have d0 := dig_in fin (j := (w.inp : Int) + j) (by omega)
      generalize dig F ((w.inp : Int) + j) = x at e1 d0
      have last : ∀ d : Int, evSs S (.cons (.app 8 (.tup (.cons (.bin .Add (.ix (.v 0) (.ki 1)) (.v 6)) (.cons (.v 11) .nil)))) .nil) [some (.old, w.D), some (.old, .int c), some (.old, .int m), some (.new, .tup (gs.map D.int)), some (.new, .int w.parts.length), s5, some (.new, .int j), some (.new, .lst (F.map D.int)), some (.own, .lst (sn.map pD)), s9, some (.new, .bl b), some (.new, .int d)] =
          .ok (.nx [some (.old, w.D), some (.old, .int c), some (.old, .int m), some (.new, .tup (gs.map D.int)), some (.new, .int w.parts.length), s5, some (.new, .int j), some (.new, .lst (F.map D.int)), some (.own, .lst ((sn ++ [((w.inp : Int) + j, d)]).map pD)), s9, some (.new, .bl b), some (.new, .int d)]) := fun d => by
        have hsl' : sn.length < 1000000 := by omega
        refine seq_last ?_
        simp (disch := (first | trivial | omega | (simp only [true_and, and_true, lim, List.length_cons, List.length_nil, List.length_map, List.length_append] <;> first | trivial | omega) | assumption)) only [asOwn, asOwnL, runB, evSs, evS, evE, evEs, evB, evIt, isV, isNo, bind_ok, bind_ex, guard_t, env0, mk_lst, mk_dct, mk_tup, mk_frz, mk_int, mk_bl, mk_str, mk_non, el_lst, el_dct, el_tup, el_frz, el_int, el_bl, el_str, el_non, new_own, new_top, new_pl, io_own, io_top, io_pl, asB_bl, asI_int, ent_top, ent_pl, fr_own, fr_top, fr_pl, pu_int, pu_bl, pu_str, pu_non, pu_tup, pu_lst, pu_nil, pu_cons, pe_lst', no_nil, no_cons, al_nil, al_cons, od_rt, od_nx, ofO_some, d_add, d_sub, d_mul, d_div, d_mod, d_cat, d_catT, c_eqI, c_neI, c_lt, c_le, c_gt, c_ge, List.map_cons, List.map_nil, List.length_cons, List.length_nil, List.getElem?_cons_zero, List.getElem?_cons_succ, List.set_cons_zero, List.set_cons_succ, List.cons_append, List.nil_append, List.append_nil, List.replicate, Nat.reduceAdd, Nat.reduceSub, Bool.true_and, Bool.and_true, Bool.false_and, Bool.and_false, Bool.true_or, Bool.or_true, Bool.false_or, Bool.or_false, Bool.not_true, Bool.not_false, if_true, if_false, Bool.false_eq_true, reduceIte, ixw1, List.map_append]
        rfl
      by_cases q5 : m / 11 % 9 = 5
      · refine ⟨(x + m / (13 + j)) % w.ring, ⟨Int.emod_nonneg _ (by omega), Int.emod_lt_of_pos _ (by omega)⟩, ?_⟩
        (apply seq_step; focus (simp (disch := (first | trivial | omega | (simp only [true_and, and_true, lim, List.length_cons, List.length_nil, List.length_map, List.length_append] <;> first | trivial | omega) | assumption)) only [asOwn, asOwnL, runB, evSs, evS, evE, evEs, evB, evIt, isV, isNo, bind_ok, bind_ex, guard_t, env0, mk_lst, mk_dct, mk_tup, mk_frz, mk_int, mk_bl, mk_str, mk_non, el_lst, el_dct, el_tup, el_frz, el_int, el_bl, el_str, el_non, new_own, new_top, new_pl, io_own, io_top, io_pl, asB_bl, asI_int, ent_top, ent_pl, fr_own, fr_top, fr_pl, pu_int, pu_bl, pu_str, pu_non, pu_tup, pu_lst, pu_nil, pu_cons, pe_lst', no_nil, no_cons, al_nil, al_cons, od_rt, od_nx, ofO_some, d_add, d_sub, d_mul, d_div, d_mod, d_cat, d_catT, c_eqI, c_neI, c_lt, c_le, c_gt, c_ge, List.map_cons, List.map_nil, List.length_cons, List.length_nil, List.getElem?_cons_zero, List.getElem?_cons_succ, List.set_cons_zero, List.set_cons_succ, List.cons_append, List.nil_append, List.append_nil, List.replicate, Nat.reduceAdd, Nat.reduceSub, Bool.true_and, Bool.and_true, Bool.false_and, Bool.and_false, Bool.true_or, Bool.or_true, Bool.false_or, Bool.or_false, Bool.not_true, Bool.not_false, if_true, if_false, Bool.false_eq_true, reduceIte, ixw1, e1]; exact rfl))
        apply seq_step
        · refine if_t (k := .pl true) ?_ (seq_last ?_)
          · simp (disch := (first | trivial | omega | (simp only [true_and, and_true, lim, List.length_cons, List.length_nil, List.length_map, List.length_append] <;> first | trivial | omega) | assumption)) only [asOwn, asOwnL, runB, evSs, evS, evE, evEs, evB, evIt, isV, isNo, bind_ok, bind_ex, guard_t, env0, mk_lst, mk_dct, mk_tup, mk_frz, mk_int, mk_bl, mk_str, mk_non, el_lst, el_dct, el_tup, el_frz, el_int, el_bl, el_str, el_non, new_own, new_top, new_pl, io_own, io_top, io_pl, asB_bl, asI_int, ent_top, ent_pl, fr_own, fr_top, fr_pl, pu_int, pu_bl, pu_str, pu_non, pu_tup, pu_lst, pu_nil, pu_cons, pe_lst', no_nil, no_cons, al_nil, al_cons, od_rt, od_nx, ofO_some, d_add, d_sub, d_mul, d_div, d_mod, d_cat, d_catT, c_eqI, c_neI, c_lt, c_le, c_gt, c_ge, List.map_cons, List.map_nil, List.length_cons, List.length_nil, List.getElem?_cons_zero, List.getElem?_cons_succ, List.set_cons_zero, List.set_cons_succ, List.cons_append, List.nil_append, List.append_nil, List.replicate, Nat.reduceAdd, Nat.reduceSub, Bool.true_and, Bool.and_true, Bool.false_and, Bool.and_false, Bool.true_or, Bool.or_true, Bool.false_or, Bool.or_false, Bool.not_true, Bool.not_false, if_true, if_false, Bool.false_eq_true, reduceIte, q5, eq_self, decide_true]
          · simp (disch := (first | trivial | omega | (simp only [true_and, and_true, lim, List.length_cons, List.length_nil, List.length_map, List.length_append] <;> first | trivial | omega) | assumption)) only [asOwn, asOwnL, runB, evSs, evS, evE, evEs, evB, evIt, isV, isNo, bind_ok, bind_ex, guard_t, env0, mk_lst, mk_dct, mk_tup, mk_frz, mk_int, mk_bl, mk_str, mk_non, el_lst, el_dct, el_tup, el_frz, el_int, el_bl, el_str, el_non, new_own, new_top, new_pl, io_own, io_top, io_pl, asB_bl, asI_int, ent_top, ent_pl, fr_own, fr_top, fr_pl, pu_int, pu_bl, pu_str, pu_non, pu_tup, pu_lst, pu_nil, pu_cons, pe_lst', no_nil, no_cons, al_nil, al_cons, od_rt, od_nx, ofO_some, d_add, d_sub, d_mul, d_div, d_mod, d_cat, d_catT, c_eqI, c_neI, c_lt, c_le, c_gt, c_ge, List.map_cons, List.map_nil, List.length_cons, List.length_nil, List.getElem?_cons_zero, List.getElem?_cons_succ, List.set_cons_zero, List.set_cons_succ, List.cons_append, List.nil_append, List.append_nil, List.replicate, Nat.reduceAdd, Nat.reduceSub, Bool.true_and, Bool.and_true, Bool.false_and, Bool.and_false, Bool.true_or, Bool.or_true, Bool.false_or, Bool.or_false, Bool.not_true, Bool.not_false, if_true, if_false, Bool.false_eq_true, reduceIte, ixw0]
            exact rfl
        apply seq_step
        · refine if_f (k := .pl true) ?_ seq_nil
          have : decide ((5 : Int) < 5) = false := rfl
          simp (disch := (first | trivial | omega | (simp only [true_and, and_true, lim, List.length_cons, List.length_nil, List.length_map, List.length_append] <;> first | trivial | omega) | assumption)) only [asOwn, asOwnL, runB, evSs, evS, evE, evEs, evB, evIt, isV, isNo, bind_ok, bind_ex, guard_t, env0, mk_lst, mk_dct, mk_tup, mk_frz, mk_int, mk_bl, mk_str, mk_non, el_lst, el_dct, el_tup, el_frz, el_int, el_bl, el_str, el_non, new_own, new_top, new_pl, io_own, io_top, io_pl, asB_bl, asI_int, ent_top, ent_pl, fr_own, fr_top, fr_pl, pu_int, pu_bl, pu_str, pu_non, pu_tup, pu_lst, pu_nil, pu_cons, pe_lst', no_nil, no_cons, al_nil, al_cons, od_rt, od_nx, ofO_some, d_add, d_sub, d_mul, d_div, d_mod, d_cat, d_catT, c_eqI, c_neI, c_lt, c_le, c_gt, c_ge, List.map_cons, List.map_nil, List.length_cons, List.length_nil, List.getElem?_cons_zero, List.getElem?_cons_succ, List.set_cons_zero, List.set_cons_succ, List.cons_append, List.nil_append, List.append_nil, List.replicate, Nat.reduceAdd, Nat.reduceSub, Bool.true_and, Bool.and_true, Bool.false_and, Bool.and_false, Bool.true_or, Bool.or_true, Bool.false_or, Bool.or_false, Bool.not_true, Bool.not_false, if_true, if_false, Bool.false_eq_true, reduceIte, q5, this]
        exact last _
      · by_cases q6 : 5 < m / 11 % 9 ∧ (j : Int) = (w.parts.length : Int) - 1
        · refine ⟨(x + 1) % w.ring, ⟨Int.emod_nonneg _ (by omega), Int.emod_lt_of_pos _ (by omega)⟩, ?_⟩
          (apply seq_step; focus (simp (disch := (first | trivial | omega | (simp only [true_and, and_true, lim, List.length_cons, List.length_nil, List.length_map, List.length_append] <;> first | trivial | omega) | assumption)) only [asOwn, asOwnL, runB, evSs, evS, evE, evEs, evB, evIt, isV, isNo, bind_ok, bind_ex, guard_t, env0, mk_lst, mk_dct, mk_tup, mk_frz, mk_int, mk_bl, mk_str, mk_non, el_lst, el_dct, el_tup, el_frz, el_int, el_bl, el_str, el_non, new_own, new_top, new_pl, io_own, io_top, io_pl, asB_bl, asI_int, ent_top, ent_pl, fr_own, fr_top, fr_pl, pu_int, pu_bl, pu_str, pu_non, pu_tup, pu_lst, pu_nil, pu_cons, pe_lst', no_nil, no_cons, al_nil, al_cons, od_rt, od_nx, ofO_some, d_add, d_sub, d_mul, d_div, d_mod, d_cat, d_catT, c_eqI, c_neI, c_lt, c_le, c_gt, c_ge, List.map_cons, List.map_nil, List.length_cons, List.length_nil, List.getElem?_cons_zero, List.getElem?_cons_succ, List.set_cons_zero, List.set_cons_succ, List.cons_append, List.nil_append, List.append_nil, List.replicate, Nat.reduceAdd, Nat.reduceSub, Bool.true_and, Bool.and_true, Bool.false_and, Bool.and_false, Bool.true_or, Bool.or_true, Bool.false_or, Bool.or_false, Bool.not_true, Bool.not_false, if_true, if_false, Bool.false_eq_true, reduceIte, ixw1, e1]; exact rfl))
          apply seq_step
          · refine if_f (k := .pl true) ?_ seq_nil
            simp (disch := (first | trivial | omega | (simp only [true_and, and_true, lim, List.length_cons, List.length_nil, List.length_map, List.length_append] <;> first | trivial | omega) | assumption)) only [asOwn, asOwnL, runB, evSs, evS, evE, evEs, evB, evIt, isV, isNo, bind_ok, bind_ex, guard_t, env0, mk_lst, mk_dct, mk_tup, mk_frz, mk_int, mk_bl, mk_str, mk_non, el_lst, el_dct, el_tup, el_frz, el_int, el_bl, el_str, el_non, new_own, new_top, new_pl, io_own, io_top, io_pl, asB_bl, asI_int, ent_top, ent_pl, fr_own, fr_top, fr_pl, pu_int, pu_bl, pu_str, pu_non, pu_tup, pu_lst, pu_nil, pu_cons, pe_lst', no_nil, no_cons, al_nil, al_cons, od_rt, od_nx, ofO_some, d_add, d_sub, d_mul, d_div, d_mod, d_cat, d_catT, c_eqI, c_neI, c_lt, c_le, c_gt, c_ge, List.map_cons, List.map_nil, List.length_cons, List.length_nil, List.getElem?_cons_zero, List.getElem?_cons_succ, List.set_cons_zero, List.set_cons_succ, List.cons_append, List.nil_append, List.append_nil, List.replicate, Nat.reduceAdd, Nat.reduceSub, Bool.true_and, Bool.and_true, Bool.false_and, Bool.and_false, Bool.true_or, Bool.or_true, Bool.false_or, Bool.or_false, Bool.not_true, Bool.not_false, if_true, if_false, Bool.false_eq_true, reduceIte, q5, decide_false]
          apply seq_step
          · refine if_t (k := .pl true) ?_ (seq_last ?_)
            · have g1 := decide_eq_true q6.1
              have g2 := decide_eq_true q6.2
              simp (disch := (first | trivial | omega | (simp only [true_and, and_true, lim, List.length_cons, List.length_nil, List.length_map, List.length_append] <;> first | trivial | omega) | assumption)) only [asOwn, asOwnL, runB, evSs, evS, evE, evEs, evB, evIt, isV, isNo, bind_ok, bind_ex, guard_t, env0, mk_lst, mk_dct, mk_tup, mk_frz, mk_int, mk_bl, mk_str, mk_non, el_lst, el_dct, el_tup, el_frz, el_int, el_bl, el_str, el_non, new_own, new_top, new_pl, io_own, io_top, io_pl, asB_bl, asI_int, ent_top, ent_pl, fr_own, fr_top, fr_pl, pu_int, pu_bl, pu_str, pu_non, pu_tup, pu_lst, pu_nil, pu_cons, pe_lst', no_nil, no_cons, al_nil, al_cons, od_rt, od_nx, ofO_some, d_add, d_sub, d_mul, d_div, d_mod, d_cat, d_catT, c_eqI, c_neI, c_lt, c_le, c_gt, c_ge, List.map_cons, List.map_nil, List.length_cons, List.length_nil, List.getElem?_cons_zero, List.getElem?_cons_succ, List.set_cons_zero, List.set_cons_succ, List.cons_append, List.nil_append, List.append_nil, List.replicate, Nat.reduceAdd, Nat.reduceSub, Bool.true_and, Bool.and_true, Bool.false_and, Bool.and_false, Bool.true_or, Bool.or_true, Bool.false_or, Bool.or_false, Bool.not_true, Bool.not_false, if_true, if_false, Bool.false_eq_true, reduceIte, g1, g2]
            · simp (disch := (first | trivial | omega | (simp only [true_and, and_true, lim, List.length_cons, List.length_nil, List.length_map, List.length_append] <;> first | trivial | omega) | assumption)) only [asOwn, asOwnL, runB, evSs, evS, evE, evEs, evB, evIt, isV, isNo, bind_ok, bind_ex, guard_t, env0, mk_lst, mk_dct, mk_tup, mk_frz, mk_int, mk_bl, mk_str, mk_non, el_lst, el_dct, el_tup, el_frz, el_int, el_bl, el_str, el_non, new_own, new_top, new_pl, io_own, io_top, io_pl, asB_bl, asI_int, ent_top, ent_pl, fr_own, fr_top, fr_pl, pu_int, pu_bl, pu_str, pu_non, pu_tup, pu_lst, pu_nil, pu_cons, pe_lst', no_nil, no_cons, al_nil, al_cons, od_rt, od_nx, ofO_some, d_add, d_sub, d_mul, d_div, d_mod, d_cat, d_catT, c_eqI, c_neI, c_lt, c_le, c_gt, c_ge, List.map_cons, List.map_nil, List.length_cons, List.length_nil, List.getElem?_cons_zero, List.getElem?_cons_succ, List.set_cons_zero, List.set_cons_succ, List.cons_append, List.nil_append, List.append_nil, List.replicate, Nat.reduceAdd, Nat.reduceSub, Bool.true_and, Bool.and_true, Bool.false_and, Bool.and_false, Bool.true_or, Bool.or_true, Bool.false_or, Bool.or_false, Bool.not_true, Bool.not_false, if_true, if_false, Bool.false_eq_true, reduceIte, ixw0]
              exact rfl
          exact last _
        · refine ⟨x, d0, ?_⟩
          (apply seq_step; focus (simp (disch := (first | trivial | omega | (simp only [true_and, and_true, lim, List.length_cons, List.length_nil, List.length_map, List.length_append] <;> first | trivial | omega) | assumption)) only [asOwn, asOwnL, runB, evSs, evS, evE, evEs, evB, evIt, isV, isNo, bind_ok, bind_ex, guard_t, env0, mk_lst, mk_dct, mk_tup, mk_frz, mk_int, mk_bl, mk_str, mk_non, el_lst, el_dct, el_tup, el_frz, el_int, el_bl, el_str, el_non, new_own, new_top, new_pl, io_own, io_top, io_pl, asB_bl, asI_int, ent_top, ent_pl, fr_own, fr_top, fr_pl, pu_int, pu_bl, pu_str, pu_non, pu_tup, pu_lst, pu_nil, pu_cons, pe_lst', no_nil, no_cons, al_nil, al_cons, od_rt, od_nx, ofO_some, d_add, d_sub, d_mul, d_div, d_mod, d_cat, d_catT, c_eqI, c_neI, c_lt, c_le, c_gt, c_ge, List.map_cons, List.map_nil, List.length_cons, List.length_nil, List.getElem?_cons_zero, List.getElem?_cons_succ, List.set_cons_zero, List.set_cons_succ, List.cons_append, List.nil_append, List.append_nil, List.replicate, Nat.reduceAdd, Nat.reduceSub, Bool.true_and, Bool.and_true, Bool.false_and, Bool.and_false, Bool.true_or, Bool.or_true, Bool.false_or, Bool.or_false, Bool.not_true, Bool.not_false, if_true, if_false, Bool.false_eq_true, reduceIte, ixw1, e1]; exact rfl))
          apply seq_step
          · refine if_f (k := .pl true) ?_ seq_nil
            simp (disch := (first | trivial | omega | (simp only [true_and, and_true, lim, List.length_cons, List.length_nil, List.length_map, List.length_append] <;> first | trivial | omega) | assumption)) only [asOwn, asOwnL, runB, evSs, evS, evE, evEs, evB, evIt, isV, isNo, bind_ok, bind_ex, guard_t, env0, mk_lst, mk_dct, mk_tup, mk_frz, mk_int, mk_bl, mk_str, mk_non, el_lst, el_dct, el_tup, el_frz, el_int, el_bl, el_str, el_non, new_own, new_top, new_pl, io_own, io_top, io_pl, asB_bl, asI_int, ent_top, ent_pl, fr_own, fr_top, fr_pl, pu_int, pu_bl, pu_str, pu_non, pu_tup, pu_lst, pu_nil, pu_cons, pe_lst', no_nil, no_cons, al_nil, al_cons, od_rt, od_nx, ofO_some, d_add, d_sub, d_mul, d_div, d_mod, d_cat, d_catT, c_eqI, c_neI, c_lt, c_le, c_gt, c_ge, List.map_cons, List.map_nil, List.length_cons, List.length_nil, List.getElem?_cons_zero, List.getElem?_cons_succ, List.set_cons_zero, List.set_cons_succ, List.cons_append, List.nil_append, List.append_nil, List.replicate, Nat.reduceAdd, Nat.reduceSub, Bool.true_and, Bool.and_true, Bool.false_and, Bool.and_false, Bool.true_or, Bool.or_true, Bool.false_or, Bool.or_false, Bool.not_true, Bool.not_false, if_true, if_false, Bool.false_eq_true, reduceIte, q5, decide_false]
          apply seq_step
          · refine if_f (k := .pl true) ?_ seq_nil
            by_cases g : 5 < m / 11 % 9
            · have g1 := decide_eq_true g
              have g2 : decide ((j : Int) = (w.parts.length : Int) - 1) = false := decide_eq_false fun z => q6 ⟨g, z⟩
              simp (disch := (first | trivial | omega | (simp only [true_and, and_true, lim, List.length_cons, List.length_nil, List.length_map, List.length_append] <;> first | trivial | omega) | assumption)) only [asOwn, asOwnL, runB, evSs, evS, evE, evEs, evB, evIt, isV, isNo, bind_ok, bind_ex, guard_t, env0, mk_lst, mk_dct, mk_tup, mk_frz, mk_int, mk_bl, mk_str, mk_non, el_lst, el_dct, el_tup, el_frz, el_int, el_bl, el_str, el_non, new_own, new_top, new_pl, io_own, io_top, io_pl, asB_bl, asI_int, ent_top, ent_pl, fr_own, fr_top, fr_pl, pu_int, pu_bl, pu_str, pu_non, pu_tup, pu_lst, pu_nil, pu_cons, pe_lst', no_nil, no_cons, al_nil, al_cons, od_rt, od_nx, ofO_some, d_add, d_sub, d_mul, d_div, d_mod, d_cat, d_catT, c_eqI, c_neI, c_lt, c_le, c_gt, c_ge, List.map_cons, List.map_nil, List.length_cons, List.length_nil, List.getElem?_cons_zero, List.getElem?_cons_succ, List.set_cons_zero, List.set_cons_succ, List.cons_append, List.nil_append, List.append_nil, List.replicate, Nat.reduceAdd, Nat.reduceSub, Bool.true_and, Bool.and_true, Bool.false_and, Bool.and_false, Bool.true_or, Bool.or_true, Bool.false_or, Bool.or_false, Bool.not_true, Bool.not_false, if_true, if_false, Bool.false_eq_true, reduceIte, g1, g2]
            · have g1 := decide_eq_false g
              simp (disch := (first | trivial | omega | (simp only [true_and, and_true, lim, List.length_cons, List.length_nil, List.length_map, List.length_append] <;> first | trivial | omega) | assumption)) only [asOwn, asOwnL, runB, evSs, evS, evE, evEs, evB, evIt, isV, isNo, bind_ok, bind_ex, guard_t, env0, mk_lst, mk_dct, mk_tup, mk_frz, mk_int, mk_bl, mk_str, mk_non, el_lst, el_dct, el_tup, el_frz, el_int, el_bl, el_str, el_non, new_own, new_top, new_pl, io_own, io_top, io_pl, asB_bl, asI_int, ent_top, ent_pl, fr_own, fr_top, fr_pl, pu_int, pu_bl, pu_str, pu_non, pu_tup, pu_lst, pu_nil, pu_cons, pe_lst', no_nil, no_cons, al_nil, al_cons, od_rt, od_nx, ofO_some, d_add, d_sub, d_mul, d_div, d_mod, d_cat, d_catT, c_eqI, c_neI, c_lt, c_le, c_gt, c_ge, List.map_cons, List.map_nil, List.length_cons, List.length_nil, List.getElem?_cons_zero, List.getElem?_cons_succ, List.set_cons_zero, List.set_cons_succ, List.cons_append, List.nil_append, List.append_nil, List.replicate, Nat.reduceAdd, Nat.reduceSub, Bool.true_and, Bool.and_true, Bool.false_and, Bool.and_false, Bool.true_or, Bool.or_true, Bool.false_or, Bool.or_false, Bool.not_true, Bool.not_false, if_true, if_false, Bool.false_eq_true, reduceIte, g1]
          exact last _
    refine for_r1P (n := w.parts.length) (kd := .pl true) (fun i ρ => ∃ sn s5 s6 s9 s10 s11, SeenFrom w (w.inp - 1) sn ∧ sn.length ≤ i ∧ (∀ q ∈ sn, q.1 < (w.inp : Int) + i) ∧ ρ = [some (.old, w.D), some (.old, .int c), some (.old, .int m), some (.new, .tup (gs.map D.int)), some (.new, .int w.parts.length), s5, s6, some (.new, .lst (F.map D.int)), some (.own, .lst (sn.map pD)), s9, s10, s11]) (by simp (disch := (first | trivial | omega | (simp only [true_and, and_true, lim, List.length_cons, List.length_nil, List.length_map, List.length_append] <;> first | trivial | omega) | assumption)) only [asOwn, asOwnL, runB, evSs, evS, evE, evEs, evB, evIt, isV, isNo, bind_ok, bind_ex, guard_t, env0, mk_lst, mk_dct, mk_tup, mk_frz, mk_int, mk_bl, mk_str, mk_non, el_lst, el_dct, el_tup, el_frz, el_int, el_bl, el_str, el_non, new_own, new_top, new_pl, io_own, io_top, io_pl, asB_bl, asI_int, ent_top, ent_pl, fr_own, fr_top, fr_pl, pu_int, pu_bl, pu_str, pu_non, pu_tup, pu_lst, pu_nil, pu_cons, pe_lst', no_nil, no_cons, al_nil, al_cons, od_rt, od_nx, ofO_some, d_add, d_sub, d_mul, d_div, d_mod, d_cat, d_catT, c_eqI, c_neI, c_lt, c_le, c_gt, c_ge, List.map_cons, List.map_nil, List.length_cons, List.length_nil, List.getElem?_cons_zero, List.getElem?_cons_succ, List.set_cons_zero, List.set_cons_succ, List.cons_append, List.nil_append, List.append_nil, List.replicate, Nat.reduceAdd, Nat.reduceSub, Bool.true_and, Bool.and_true, Bool.false_and, Bool.and_false, Bool.true_or, Bool.or_true, Bool.false_or, Bool.or_false, Bool.not_true, Bool.not_false, if_true, if_false, Bool.false_eq_true, reduceIte]) (by omega) ⟨[], _, _, _, _, _, trivial, Nat.le_refl _, fun q h => (by cases h), rfl⟩ ?_
    rintro j ρ hj ⟨sn, s5, s6, s9, s10, s11, g1, g2, g3, rfl⟩
    have set10 : evS S (.set 10 false (.cmp .Eq (.bin .Mod (.bin .FloorDiv (.bin .FloorDiv (.v 2) (.ki 200)) (.bin .Add (.ki 1) (.v 6))) (.ki 3)) (.ki 1))) [some (.old, w.D), some (.old, .int c), some (.old, .int m), some (.new, .tup (gs.map D.int)), some (.new, .int w.parts.length), s5, some (.new, .int j), some (.new, .lst (F.map D.int)), some (.own, .lst (sn.map pD)), s9, s10, s11] =
        .ok (.nx [some (.old, w.D), some (.old, .int c), some (.old, .int m), some (.new, .tup (gs.map D.int)), some (.new, .int w.parts.length), s5, some (.new, .int j), some (.new, .lst (F.map D.int)), some (.own, .lst (sn.map pD)), s9, some (.new, .bl (decide (m / 200 / (1 + j) % 3 = 1))), s11]) := by
      simp (disch := (first | trivial | omega | (simp only [true_and, and_true, lim, List.length_cons, List.length_nil, List.length_map, List.length_append] <;> first | trivial | omega) | assumption)) only [asOwn, asOwnL, runB, evSs, evS, evE, evEs, evB, evIt, isV, isNo, bind_ok, bind_ex, guard_t, env0, mk_lst, mk_dct, mk_tup, mk_frz, mk_int, mk_bl, mk_str, mk_non, el_lst, el_dct, el_tup, el_frz, el_int, el_bl, el_str, el_non, new_own, new_top, new_pl, io_own, io_top, io_pl, asB_bl, asI_int, ent_top, ent_pl, fr_own, fr_top, fr_pl, pu_int, pu_bl, pu_str, pu_non, pu_tup, pu_lst, pu_nil, pu_cons, pe_lst', no_nil, no_cons, al_nil, al_cons, od_rt, od_nx, ofO_some, d_add, d_sub, d_mul, d_div, d_mod, d_cat, d_catT, c_eqI, c_neI, c_lt, c_le, c_gt, c_ge, List.map_cons, List.map_nil, List.length_cons, List.length_nil, List.getElem?_cons_zero, List.getElem?_cons_succ, List.set_cons_zero, List.set_cons_succ, List.cons_append, List.nil_append, List.append_nil, List.replicate, Nat.reduceAdd, Nat.reduceSub, Bool.true_and, Bool.and_true, Bool.false_and, Bool.and_false, Bool.true_or, Bool.or_true, Bool.false_or, Bool.or_false, Bool.not_true, Bool.not_false, if_true, if_false, Bool.false_eq_true, reduceIte]
    obtain ⟨d, hd, eb⟩ := branch j sn (decide (m / 200 / (1 + j) % 3 = 1)) s5 s9 s11 hj g2
    have yes : ∃ sn' s5' s6' s9' s10' s11', SeenFrom w (w.inp - 1) sn' ∧ sn'.length ≤ j + 1 ∧ (∀ q ∈ sn', q.1 < (w.inp : Int) + (j + 1 : Nat)) ∧ [some (.old, w.D), some (.old, .int c), some (.old, .int m), some (.new, .tup (gs.map D.int)), some (.new, .int w.parts.length), s5, some (.new, .int j), some (.new, .lst (F.map D.int)), some (.own, .lst ((sn ++ [((w.inp : Int) + j, d)]).map pD)), s9, some (.new, .bl (decide (m / 200 / (1 + j) % 3 = 1))), some (.new, .int d)] = [some (.old, w.D), some (.old, .int c), some (.old, .int m), some (.new, .tup (gs.map D.int)), some (.new, .int w.parts.length), s5', s6', some (.new, .lst (F.map D.int)), some (.own, .lst (sn'.map pD)), s9', s10', s11'] := by
      refine ⟨sn ++ [((w.inp : Int) + j, d)], _, _, _, _, _, seen_snoc g1 (fun q hq => g3 q hq) ?_ ?_ hd.1 hd.2, by simp; exact g2, fun q hq => ?_, rfl⟩
      · show (w.inp : Int) - 1 < (w.inp : Int) + j; omega
      · show (w.inp : Int) + j < w.inp + w.parts.length; omega
      · rcases List.mem_append.mp hq with z | z
        · have := g3 q z; omega
        · have : q = ((w.inp : Int) + j, d) := by simpa using z
          subst this
          show (w.inp : Int) + j < (w.inp : Int) + (j + 1 : Nat); omega
    rw [bindT_1, bind_ok, setE_int]
    by_cases q1 : m / 200 / (1 + j) % 3 = 1
    · refine ⟨_, seq_step set10 (seq_last (if_t (k := .pl true) ?_ eb)), yes⟩
      have := decide_eq_true q1
      simp (disch := (first | trivial | omega | (simp only [true_and, and_true, lim, List.length_cons, List.length_nil, List.length_map, List.length_append] <;> first | trivial | omega) | assumption)) only [asOwn, asOwnL, runB, evSs, evS, evE, evEs, evB, evIt, isV, isNo, bind_ok, bind_ex, guard_t, env0, mk_lst, mk_dct, mk_tup, mk_frz, mk_int, mk_bl, mk_str, mk_non, el_lst, el_dct, el_tup, el_frz, el_int, el_bl, el_str, el_non, new_own, new_top, new_pl, io_own, io_top, io_pl, asB_bl, asI_int, ent_top, ent_pl, fr_own, fr_top, fr_pl, pu_int, pu_bl, pu_str, pu_non, pu_tup, pu_lst, pu_nil, pu_cons, pe_lst', no_nil, no_cons, al_nil, al_cons, od_rt, od_nx, ofO_some, d_add, d_sub, d_mul, d_div, d_mod, d_cat, d_catT, c_eqI, c_neI, c_lt, c_le, c_gt, c_ge, List.map_cons, List.map_nil, List.length_cons, List.length_nil, List.getElem?_cons_zero, List.getElem?_cons_succ, List.set_cons_zero, List.set_cons_succ, List.cons_append, List.nil_append, List.append_nil, List.replicate, Nat.reduceAdd, Nat.reduceSub, Bool.true_and, Bool.and_true, Bool.false_and, Bool.and_false, Bool.true_or, Bool.or_true, Bool.false_or, Bool.or_false, Bool.not_true, Bool.not_false, if_true, if_false, Bool.false_eq_true, reduceIte, this]
    · have e1 := decide_eq_false q1
      by_cases q2 : (j : Int) = (w.parts.length : Int) - 1 ∧ 0 < m / 7 % 4
      · refine ⟨_, seq_step set10 (seq_last (if_t (k := .pl true) ?_ eb)), yes⟩
        have e2 := decide_eq_true q2.1
        have e3 := decide_eq_true q2.2
        simp (disch := (first | trivial | omega | (simp only [true_and, and_true, lim, List.length_cons, List.length_nil, List.length_map, List.length_append] <;> first | trivial | omega) | assumption)) only [asOwn, asOwnL, runB, evSs, evS, evE, evEs, evB, evIt, isV, isNo, bind_ok, bind_ex, guard_t, env0, mk_lst, mk_dct, mk_tup, mk_frz, mk_int, mk_bl, mk_str, mk_non, el_lst, el_dct, el_tup, el_frz, el_int, el_bl, el_str, el_non, new_own, new_top, new_pl, io_own, io_top, io_pl, asB_bl, asI_int, ent_top, ent_pl, fr_own, fr_top, fr_pl, pu_int, pu_bl, pu_str, pu_non, pu_tup, pu_lst, pu_nil, pu_cons, pe_lst', no_nil, no_cons, al_nil, al_cons, od_rt, od_nx, ofO_some, d_add, d_sub, d_mul, d_div, d_mod, d_cat, d_catT, c_eqI, c_neI, c_lt, c_le, c_gt, c_ge, List.map_cons, List.map_nil, List.length_cons, List.length_nil, List.getElem?_cons_zero, List.getElem?_cons_succ, List.set_cons_zero, List.set_cons_succ, List.cons_append, List.nil_append, List.append_nil, List.replicate, Nat.reduceAdd, Nat.reduceSub, Bool.true_and, Bool.and_true, Bool.false_and, Bool.and_false, Bool.true_or, Bool.or_true, Bool.false_or, Bool.or_false, Bool.not_true, Bool.not_false, if_true, if_false, Bool.false_eq_true, reduceIte, e1, e2, e3]
      · refine ⟨_, seq_step set10 (seq_last (if_f (k := .pl true) ?_ seq_nil)), sn, _, _, _, _, _, g1, by omega, fun q hq => by have := g3 q hq; omega, rfl⟩
        by_cases q3 : (j : Int) = (w.parts.length : Int) - 1
        · have e2 := decide_eq_true q3
          have e3 : decide (0 < m / 7 % 4) = false := decide_eq_false fun z => q2 ⟨q3, z⟩
          simp (disch := (first | trivial | omega | (simp only [true_and, and_true, lim, List.length_cons, List.length_nil, List.length_map, List.length_append] <;> first | trivial | omega) | assumption)) only [asOwn, asOwnL, runB, evSs, evS, evE, evEs, evB, evIt, isV, isNo, bind_ok, bind_ex, guard_t, env0, mk_lst, mk_dct, mk_tup, mk_frz, mk_int, mk_bl, mk_str, mk_non, el_lst, el_dct, el_tup, el_frz, el_int, el_bl, el_str, el_non, new_own, new_top, new_pl, io_own, io_top, io_pl, asB_bl, asI_int, ent_top, ent_pl, fr_own, fr_top, fr_pl, pu_int, pu_bl, pu_str, pu_non, pu_tup, pu_lst, pu_nil, pu_cons, pe_lst', no_nil, no_cons, al_nil, al_cons, od_rt, od_nx, ofO_some, d_add, d_sub, d_mul, d_div, d_mod, d_cat, d_catT, c_eqI, c_neI, c_lt, c_le, c_gt, c_ge, List.map_cons, List.map_nil, List.length_cons, List.length_nil, List.getElem?_cons_zero, List.getElem?_cons_succ, List.set_cons_zero, List.set_cons_succ, List.cons_append, List.nil_append, List.append_nil, List.replicate, Nat.reduceAdd, Nat.reduceSub, Bool.true_and, Bool.and_true, Bool.false_and, Bool.and_false, Bool.true_or, Bool.or_true, Bool.false_or, Bool.or_false, Bool.not_true, Bool.not_false, if_true, if_false, Bool.false_eq_true, reduceIte, e1, e2, e3]
        · have e2 := decide_eq_false q3
          simp (disch := (first | trivial | omega | (simp only [true_and, and_true, lim, List.length_cons, List.length_nil, List.length_map, List.length_append] <;> first | trivial | omega) | assumption)) only [asOwn, asOwnL, runB, evSs, evS, evE, evEs, evB, evIt, isV, isNo, bind_ok, bind_ex, guard_t, env0, mk_lst, mk_dct, mk_tup, mk_frz, mk_int, mk_bl, mk_str, mk_non, el_lst, el_dct, el_tup, el_frz, el_int, el_bl, el_str, el_non, new_own, new_top, new_pl, io_own, io_top, io_pl, asB_bl, asI_int, ent_top, ent_pl, fr_own, fr_top, fr_pl, pu_int, pu_bl, pu_str, pu_non, pu_tup, pu_lst, pu_nil, pu_cons, pe_lst', no_nil, no_cons, al_nil, al_cons, od_rt, od_nx, ofO_some, d_add, d_sub, d_mul, d_div, d_mod, d_cat, d_catT, c_eqI, c_neI, c_lt, c_le, c_gt, c_ge, List.map_cons, List.map_nil, List.length_cons, List.length_nil, List.getElem?_cons_zero, List.getElem?_cons_succ, List.set_cons_zero, List.set_cons_succ, List.cons_append, List.nil_append, List.append_nil, List.replicate, Nat.reduceAdd, Nat.reduceSub, Bool.true_and, Bool.and_true, Bool.false_and, Bool.and_false, Bool.true_or, Bool.or_true, Bool.false_or, Bool.or_false, Bool.not_true, Bool.not_false, if_true, if_false, Bool.false_eq_true, reduceIte, e1, e2]
  obtain ⟨ρ2, e2, sn, s5, s6', s9', s10, s11, g1, g2, g3, rfl⟩ := E2
  refine ⟨sn, g1, ?_⟩
  unfold llookF
  refine run_rt ?_
  (apply seq_step; focus (simp (disch := (first | trivial | omega | (simp only [true_and, and_true, lim, List.length_cons, List.length_nil, List.length_map, List.length_append] <;> first | trivial | omega) | assumption)) only [asOwn, asOwnL, runB, evSs, evS, evE, evEs, evB, evIt, isV, isNo, bind_ok, bind_ex, guard_t, env0, mk_lst, mk_dct, mk_tup, mk_frz, mk_int, mk_bl, mk_str, mk_non, el_lst, el_dct, el_tup, el_frz, el_int, el_bl, el_str, el_non, new_own, new_top, new_pl, io_own, io_top, io_pl, asB_bl, asI_int, ent_top, ent_pl, fr_own, fr_top, fr_pl, pu_int, pu_bl, pu_str, pu_non, pu_tup, pu_lst, pu_nil, pu_cons, pe_lst', no_nil, no_cons, al_nil, al_cons, od_rt, od_nx, ofO_some, d_add, d_sub, d_mul, d_div, d_mod, d_cat, d_catT, c_eqI, c_neI, c_lt, c_le, c_gt, c_ge, List.map_cons, List.map_nil, List.length_cons, List.length_nil, List.getElem?_cons_zero, List.getElem?_cons_succ, List.set_cons_zero, List.set_cons_succ, List.cons_append, List.nil_append, List.append_nil, List.replicate, Nat.reduceAdd, Nat.reduceSub, Bool.true_and, Bool.and_true, Bool.false_and, Bool.and_false, Bool.true_or, Bool.or_true, Bool.false_or, Bool.or_false, Bool.not_true, Bool.not_false, if_true, if_false, Bool.false_eq_true, reduceIte, h1]; exact rfl))
  (apply seq_step; focus (simp (disch := (first | trivial | omega | (simp only [true_and, and_true, lim, List.length_cons, List.length_nil, List.length_map, List.length_append] <;> first | trivial | omega) | assumption)) only [asOwn, asOwnL, runB, evSs, evS, evE, evEs, evB, evIt, isV, isNo, bind_ok, bind_ex, guard_t, env0, mk_lst, mk_dct, mk_tup, mk_frz, mk_int, mk_bl, mk_str, mk_non, el_lst, el_dct, el_tup, el_frz, el_int, el_bl, el_str, el_non, new_own, new_top, new_pl, io_own, io_top, io_pl, asB_bl, asI_int, ent_top, ent_pl, fr_own, fr_top, fr_pl, pu_int, pu_bl, pu_str, pu_non, pu_tup, pu_lst, pu_nil, pu_cons, pe_lst', no_nil, no_cons, al_nil, al_cons, od_rt, od_nx, ofO_some, d_add, d_sub, d_mul, d_div, d_mod, d_cat, d_catT, c_eqI, c_neI, c_lt, c_le, c_gt, c_ge, List.map_cons, List.map_nil, List.length_cons, List.length_nil, List.getElem?_cons_zero, List.getElem?_cons_succ, List.set_cons_zero, List.set_cons_succ, List.cons_append, List.nil_append, List.append_nil, List.replicate, Nat.reduceAdd, Nat.reduceSub, Bool.true_and, Bool.and_true, Bool.false_and, Bool.and_false, Bool.true_or, Bool.or_true, Bool.false_or, Bool.or_false, Bool.not_true, Bool.not_false, if_true, if_false, Bool.false_eq_true, reduceIte, ixw2, len_lst, List.length_map]; exact rfl))
  (apply seq_step; focus (simp (disch := (first | trivial | omega | (simp only [true_and, and_true, lim, List.length_cons, List.length_nil, List.length_map, List.length_append] <;> first | trivial | omega) | assumption)) only [asOwn, asOwnL, runB, evSs, evS, evE, evEs, evB, evIt, isV, isNo, bind_ok, bind_ex, guard_t, env0, mk_lst, mk_dct, mk_tup, mk_frz, mk_int, mk_bl, mk_str, mk_non, el_lst, el_dct, el_tup, el_frz, el_int, el_bl, el_str, el_non, new_own, new_top, new_pl, io_own, io_top, io_pl, asB_bl, asI_int, ent_top, ent_pl, fr_own, fr_top, fr_pl, pu_int, pu_bl, pu_str, pu_non, pu_tup, pu_lst, pu_nil, pu_cons, pe_lst', no_nil, no_cons, al_nil, al_cons, od_rt, od_nx, ofO_some, d_add, d_sub, d_mul, d_div, d_mod, d_cat, d_catT, c_eqI, c_neI, c_lt, c_le, c_gt, c_ge, List.map_cons, List.map_nil, List.length_cons, List.length_nil, List.getElem?_cons_zero, List.getElem?_cons_succ, List.set_cons_zero, List.set_cons_succ, List.cons_append, List.nil_append, List.append_nil, List.replicate, Nat.reduceAdd, Nat.reduceSub, Bool.true_and, Bool.and_true, Bool.false_and, Bool.and_false, Bool.true_or, Bool.or_true, Bool.false_or, Bool.or_false, Bool.not_true, Bool.not_false, if_true, if_false, Bool.false_eq_true, reduceIte, mkDct_nil]; exact rfl))
  apply seq_step
  · exact e1
  (apply seq_step; focus (simp (disch := (first | trivial | omega | (simp only [true_and, and_true, lim, List.length_cons, List.length_nil, List.length_map, List.length_append] <;> first | trivial | omega) | assumption)) only [asOwn, asOwnL, runB, evSs, evS, evE, evEs, evB, evIt, isV, isNo, bind_ok, bind_ex, guard_t, env0, mk_lst, mk_dct, mk_tup, mk_frz, mk_int, mk_bl, mk_str, mk_non, el_lst, el_dct, el_tup, el_frz, el_int, el_bl, el_str, el_non, new_own, new_top, new_pl, io_own, io_top, io_pl, asB_bl, asI_int, ent_top, ent_pl, fr_own, fr_top, fr_pl, pu_int, pu_bl, pu_str, pu_non, pu_tup, pu_lst, pu_nil, pu_cons, pe_lst', no_nil, no_cons, al_nil, al_cons, od_rt, od_nx, ofO_some, d_add, d_sub, d_mul, d_div, d_mod, d_cat, d_catT, c_eqI, c_neI, c_lt, c_le, c_gt, c_ge, List.map_cons, List.map_nil, List.length_cons, List.length_nil, List.getElem?_cons_zero, List.getElem?_cons_succ, List.set_cons_zero, List.set_cons_succ, List.cons_append, List.nil_append, List.append_nil, List.replicate, Nat.reduceAdd, Nat.reduceSub, Bool.true_and, Bool.and_true, Bool.false_and, Bool.and_false, Bool.true_or, Bool.or_true, Bool.false_or, Bool.or_false, Bool.not_true, Bool.not_false, if_true, if_false, Bool.false_eq_true, reduceIte, h2t]; exact rfl))
  (apply seq_step; focus (simp (disch := (first | trivial | omega | (simp only [true_and, and_true, lim, List.length_cons, List.length_nil, List.length_map, List.length_append] <;> first | trivial | omega) | assumption)) only [asOwn, asOwnL, runB, evSs, evS, evE, evEs, evB, evIt, isV, isNo, bind_ok, bind_ex, guard_t, env0, mk_lst, mk_dct, mk_tup, mk_frz, mk_int, mk_bl, mk_str, mk_non, el_lst, el_dct, el_tup, el_frz, el_int, el_bl, el_str, el_non, new_own, new_top, new_pl, io_own, io_top, io_pl, asB_bl, asI_int, ent_top, ent_pl, fr_own, fr_top, fr_pl, pu_int, pu_bl, pu_str, pu_non, pu_tup, pu_lst, pu_nil, pu_cons, pe_lst', no_nil, no_cons, al_nil, al_cons, od_rt, od_nx, ofO_some, d_add, d_sub, d_mul, d_div, d_mod, d_cat, d_catT, c_eqI, c_neI, c_lt, c_le, c_gt, c_ge, List.map_cons, List.map_nil, List.length_cons, List.length_nil, List.getElem?_cons_zero, List.getElem?_cons_succ, List.set_cons_zero, List.set_cons_succ, List.cons_append, List.nil_append, List.append_nil, List.replicate, Nat.reduceAdd, Nat.reduceSub, Bool.true_and, Bool.and_true, Bool.false_and, Bool.and_false, Bool.true_or, Bool.or_true, Bool.false_or, Bool.or_false, Bool.not_true, Bool.not_false, if_true, if_false, Bool.false_eq_true, reduceIte]; exact rfl))
  apply seq_step
  · exact e2
  apply seq_rt
  simp (disch := (first | trivial | omega | (simp only [true_and, and_true, lim, List.length_cons, List.length_nil, List.length_map, List.length_append] <;> first | trivial | omega) | assumption)) only [asOwn, asOwnL, runB, evSs, evS, evE, evEs, evB, evIt, isV, isNo, bind_ok, bind_ex, guard_t, env0, mk_lst, mk_dct, mk_tup, mk_frz, mk_int, mk_bl, mk_str, mk_non, el_lst, el_dct, el_tup, el_frz, el_int, el_bl, el_str, el_non, new_own, new_top, new_pl, io_own, io_top, io_pl, asB_bl, asI_int, ent_top, ent_pl, fr_own, fr_top, fr_pl, pu_int, pu_bl, pu_str, pu_non, pu_tup, pu_lst, pu_nil, pu_cons, pe_lst', no_nil, no_cons, al_nil, al_cons, od_rt, od_nx, ofO_some, d_add, d_sub, d_mul, d_div, d_mod, d_cat, d_catT, c_eqI, c_neI, c_lt, c_le, c_gt, c_ge, List.map_cons, List.map_nil, List.length_cons, List.length_nil, List.getElem?_cons_zero, List.getElem?_cons_succ, List.set_cons_zero, List.set_cons_succ, List.cons_append, List.nil_append, List.append_nil, List.replicate, Nat.reduceAdd, Nat.reduceSub, Bool.true_and, Bool.and_true, Bool.false_and, Bool.and_false, Bool.true_or, Bool.or_true, Bool.false_or, Bool.or_false, Bool.not_true, Bool.not_false, if_true, if_false, Bool.false_eq_true, reduceIte, tup_lst]
  rfl
/-! ### what a piece gives, with what holds of it -/
def Gv {α : Type} (r : M α) (P : α → Prop) : Prop := ∃ a, r = .ok a ∧ P a
section
variable {S : Sig} {s : IS} {ss t e : ISs} {ρ ρ' : PyV.Env} {d : D} {k : Kd} {c : IE} {f : Fn} {ds : List D}
theorem gv_eq {α : Type} {r : M α} {a : α} (h : Gv r fun b => b = a) : r = .ok a := by
  obtain ⟨b, h, rfl⟩ := h
  exact h
theorem gv_mono {α : Type} {r : M α} {P Q : α → Prop} (h : Gv r P) (g : ∀ a, P a → Q a) : Gv r Q := by
  obtain ⟨b, h, p⟩ := h
  exact ⟨b, h, g b p⟩
theorem gv_run {P : D → Prop} (h : Gv (evSs S f.body (env0 f.slots ds)) fun o => ∃ d, o = .rt d ∧ P d) (hl : ds.length = f.par := by rfl) : Gv (runB S f ds) P := by
  obtain ⟨o, h, d, rfl, p⟩ := h
  exact ⟨d, run_rt h hl, p⟩
theorem gv_step {P : Out → Prop} (h : evS S s ρ = .ok (.nx ρ')) (g : Gv (evSs S ss ρ') P) : Gv (evSs S (.cons s ss) ρ) P := by
  obtain ⟨o, g, p⟩ := g
  exact ⟨o, seq_step h g, p⟩
theorem gv_P {P : Out → Prop} {Q : PyV.Env → Prop} (h : ∃ ρ', evS S s ρ = .ok (.nx ρ') ∧ Q ρ') (g : ∀ ρ', Q ρ' → Gv (evSs S ss ρ') P) : Gv (evSs S (.cons s ss) ρ) P := by
  obtain ⟨ρ', h, q⟩ := h
  exact gv_step h (g ρ' q)
theorem gv_rt {P : Out → Prop} (h : evS S s ρ = .ok (.rt d)) (g : P (.rt d)) : Gv (evSs S (.cons s ss) ρ) P := ⟨_, seq_rt h, g⟩
theorem gv_nil {P : Out → Prop} (g : P (.nx ρ)) : Gv (evSs S .nil ρ) P := ⟨_, seq_nil, g⟩
theorem gv_ret {P : Out → Prop} {n : Bool} {a : IE} (h : evE S a ρ = .ok (.pl n, d)) (hf : (n || pureD d) = true) (g : P (.rt d)) : Gv (evSs S (.cons (.ret a) ss) ρ) P := ⟨_, seq_rt (ret_ev h hf), g⟩
end
def LkOk (w : Wk) (l : Lk) : Prop := l.1.length = w.inp ∧ (∀ g ∈ l.1, 0 ≤ g ∧ g < w.ring) ∧ SeenFrom w (w.inp - 1) l.2
def roomI (w : Wk) (br : List Int) (l : Lk) : Option (List Int) := fillI w (dictI l.2) br 0 w.parts l.1
theorem mk_l (n : Bool) (l : Lk) : mkR n (LkD l) = (.pl n, LkD l) := rfl
theorem el_l (n : Bool) (l : Lk) : elR n (LkD l) = (.pl n, LkD l) := rfl
theorem run_llooks (S : Sig) (mx lk : Nat) {ns : List Int} {w : Wk} {f : Int} (hf : 0 ≤ f) {most : Nat} (hmo : most ≤ 900)
    (h1 : ∀ {j : Int}, 0 ≤ j → S.call mx [.frz (ns.map D.int), .int j] = .ok (.int (mixed ns j)))
    (h2 : ∀ (c m : Int), 0 ≤ m → ∃ l : Lk, LkOk w l ∧ S.call lk [w.D, .int c, .int m] = .ok (LkD l)) :
    ∃ ls : List Lk, ls.length ≤ most ∧ (∀ l ∈ ls, LkOk w l) ∧ runB S (llooksF mx lk) [.frz (ns.map D.int), w.D, .int f, .int most] = .ok (.lst (ls.map LkD)) := by
  have m0 := mixed_nn ns f
  have e0 := h1 hf
  have p0 : (0 : Int) < (most : Int) + 1 := by omega
  have q1 := Int.emod_nonneg (mixed ns f) (Int.ne_of_gt p0)
  have q2 := Int.emod_lt_of_pos (mixed ns f) p0
  obtain ⟨n, hN⟩ : ∃ n : Nat, (n : Int) = mixed ns f % (most + 1) := ⟨(mixed ns f % (most + 1)).toNat, by omega⟩
  have hle : n ≤ most := by omega
  have G : Gv (runB S (llooksF mx lk) [.frz (ns.map D.int), w.D, .int f, .int most]) fun d => ∃ ls : List Lk, ls.length ≤ most ∧ (∀ l ∈ ls, LkOk w l) ∧ d = .lst (ls.map LkD) := by
    unfold llooksF
    refine gv_run ?_
    (apply gv_step; focus (simp (disch := (first | trivial | omega | (simp only [true_and, and_true, lim, List.length_cons, List.length_nil, List.length_map, List.length_append] <;> first | trivial | omega) | assumption)) only [asOwn, asOwnL, runB, evSs, evS, evE, evEs, evB, evIt, isV, isNo, bind_ok, bind_ex, guard_t, env0, mk_lst, mk_dct, mk_tup, mk_frz, mk_int, mk_bl, mk_str, mk_non, el_lst, el_dct, el_tup, el_frz, el_int, el_bl, el_str, el_non, new_own, new_top, new_pl, io_own, io_top, io_pl, asB_bl, asI_int, ent_top, ent_pl, fr_own, fr_top, fr_pl, pu_int, pu_bl, pu_str, pu_non, pu_tup, pu_lst, pu_nil, pu_cons, pe_lst', no_nil, no_cons, al_nil, al_cons, od_rt, od_nx, ofO_some, d_add, d_sub, d_mul, d_div, d_mod, d_cat, d_catT, c_eqI, c_neI, c_lt, c_le, c_gt, c_ge, List.map_cons, List.map_nil, List.length_cons, List.length_nil, List.getElem?_cons_zero, List.getElem?_cons_succ, List.set_cons_zero, List.set_cons_succ, List.cons_append, List.nil_append, List.append_nil, List.replicate, Nat.reduceAdd, Nat.reduceSub, Bool.true_and, Bool.and_true, Bool.false_and, Bool.and_false, Bool.true_or, Bool.or_true, Bool.false_or, Bool.or_false, Bool.not_true, Bool.not_false, if_true, if_false, Bool.false_eq_true, reduceIte]; exact rfl))
    refine gv_P (for_r1P (n := n) (kd := .pl true) (fun i ρ => ∃ (ls : List Lk) (s5 s6 s7 : Option (Tg × D)), ls.length = i ∧ (∀ l ∈ ls, LkOk w l) ∧ ρ = [some (.old, .frz (ns.map D.int)), some (.old, w.D), some (.old, .int f), some (.old, .int most), some (.own, .lst (ls.map LkD)), s5, s6, s7])
      (by simp (disch := (first | trivial | omega | (simp only [true_and, and_true, lim, List.length_cons, List.length_nil, List.length_map, List.length_append] <;> first | trivial | omega) | assumption)) only [asOwn, asOwnL, runB, evSs, evS, evE, evEs, evB, evIt, isV, isNo, bind_ok, bind_ex, guard_t, env0, mk_lst, mk_dct, mk_tup, mk_frz, mk_int, mk_bl, mk_str, mk_non, el_lst, el_dct, el_tup, el_frz, el_int, el_bl, el_str, el_non, new_own, new_top, new_pl, io_own, io_top, io_pl, asB_bl, asI_int, ent_top, ent_pl, fr_own, fr_top, fr_pl, pu_int, pu_bl, pu_str, pu_non, pu_tup, pu_lst, pu_nil, pu_cons, pe_lst', no_nil, no_cons, al_nil, al_cons, od_rt, od_nx, ofO_some, d_add, d_sub, d_mul, d_div, d_mod, d_cat, d_catT, c_eqI, c_neI, c_lt, c_le, c_gt, c_ge, List.map_cons, List.map_nil, List.length_cons, List.length_nil, List.getElem?_cons_zero, List.getElem?_cons_succ, List.set_cons_zero, List.set_cons_succ, List.cons_append, List.nil_append, List.append_nil, List.replicate, Nat.reduceAdd, Nat.reduceSub, Bool.true_and, Bool.and_true, Bool.false_and, Bool.and_false, Bool.true_or, Bool.or_true, Bool.false_or, Bool.or_false, Bool.not_true, Bool.not_false, if_true, if_false, Bool.false_eq_true, reduceIte, e0, hN]) (by omega) ⟨[], none, none, none, rfl, by simp, rfl⟩ ?_) ?_
    · rintro j ρ hj ⟨ls, s5, s6, s7, hlen, hok, rfl⟩
      obtain ⟨l, hl, el⟩ := h2 (mixed ns (f + 1 + 2 * j)) (mixed ns (f + 2 + 2 * j)) (mixed_nn _ _)
      refine ⟨_, ?_, ls ++ [l], some (.new, .int j), some (.new, .int (mixed ns (f + 1 + 2 * j))), some (.new, .int (mixed ns (f + 2 + 2 * j))), by simp; omega, fun x hx => ?_, rfl⟩
      · rw [bindT_1, bind_ok, setE_int]
        (apply seq_step; focus (simp (disch := (first | trivial | omega | (simp only [true_and, and_true, lim, List.length_cons, List.length_nil, List.length_map, List.length_append] <;> first | trivial | omega) | assumption)) only [asOwn, asOwnL, runB, evSs, evS, evE, evEs, evB, evIt, isV, isNo, bind_ok, bind_ex, guard_t, env0, mk_lst, mk_dct, mk_tup, mk_frz, mk_int, mk_bl, mk_str, mk_non, el_lst, el_dct, el_tup, el_frz, el_int, el_bl, el_str, el_non, new_own, new_top, new_pl, io_own, io_top, io_pl, asB_bl, asI_int, ent_top, ent_pl, fr_own, fr_top, fr_pl, pu_int, pu_bl, pu_str, pu_non, pu_tup, pu_lst, pu_nil, pu_cons, pe_lst', no_nil, no_cons, al_nil, al_cons, od_rt, od_nx, ofO_some, d_add, d_sub, d_mul, d_div, d_mod, d_cat, d_catT, c_eqI, c_neI, c_lt, c_le, c_gt, c_ge, List.map_cons, List.map_nil, List.length_cons, List.length_nil, List.getElem?_cons_zero, List.getElem?_cons_succ, List.set_cons_zero, List.set_cons_succ, List.cons_append, List.nil_append, List.append_nil, List.replicate, Nat.reduceAdd, Nat.reduceSub, Bool.true_and, Bool.and_true, Bool.false_and, Bool.and_false, Bool.true_or, Bool.or_true, Bool.false_or, Bool.or_false, Bool.not_true, Bool.not_false, if_true, if_false, Bool.false_eq_true, reduceIte, d_mull, h1]; exact rfl))
        (apply seq_step; focus (simp (disch := (first | trivial | omega | (simp only [true_and, and_true, lim, List.length_cons, List.length_nil, List.length_map, List.length_append] <;> first | trivial | omega) | assumption)) only [asOwn, asOwnL, runB, evSs, evS, evE, evEs, evB, evIt, isV, isNo, bind_ok, bind_ex, guard_t, env0, mk_lst, mk_dct, mk_tup, mk_frz, mk_int, mk_bl, mk_str, mk_non, el_lst, el_dct, el_tup, el_frz, el_int, el_bl, el_str, el_non, new_own, new_top, new_pl, io_own, io_top, io_pl, asB_bl, asI_int, ent_top, ent_pl, fr_own, fr_top, fr_pl, pu_int, pu_bl, pu_str, pu_non, pu_tup, pu_lst, pu_nil, pu_cons, pe_lst', no_nil, no_cons, al_nil, al_cons, od_rt, od_nx, ofO_some, d_add, d_sub, d_mul, d_div, d_mod, d_cat, d_catT, c_eqI, c_neI, c_lt, c_le, c_gt, c_ge, List.map_cons, List.map_nil, List.length_cons, List.length_nil, List.getElem?_cons_zero, List.getElem?_cons_succ, List.set_cons_zero, List.set_cons_succ, List.cons_append, List.nil_append, List.append_nil, List.replicate, Nat.reduceAdd, Nat.reduceSub, Bool.true_and, Bool.and_true, Bool.false_and, Bool.and_false, Bool.true_or, Bool.or_true, Bool.false_or, Bool.or_false, Bool.not_true, Bool.not_false, if_true, if_false, Bool.false_eq_true, reduceIte, d_mull, h1]; exact rfl))
        refine seq_last ?_
        have hb : (ls.map LkD).length < 1000000 := by rw [List.length_map]; omega
        simp (disch := (first | trivial | omega | (simp only [true_and, and_true, lim, List.length_cons, List.length_nil, List.length_map, List.length_append] <;> first | trivial | omega) | assumption)) only [asOwn, asOwnL, runB, evSs, evS, evE, evEs, evB, evIt, isV, isNo, bind_ok, bind_ex, guard_t, env0, mk_lst, mk_dct, mk_tup, mk_frz, mk_int, mk_bl, mk_str, mk_non, el_lst, el_dct, el_tup, el_frz, el_int, el_bl, el_str, el_non, new_own, new_top, new_pl, io_own, io_top, io_pl, asB_bl, asI_int, ent_top, ent_pl, fr_own, fr_top, fr_pl, pu_int, pu_bl, pu_str, pu_non, pu_tup, pu_lst, pu_nil, pu_cons, pe_lst', no_nil, no_cons, al_nil, al_cons, od_rt, od_nx, ofO_some, d_add, d_sub, d_mul, d_div, d_mod, d_cat, d_catT, c_eqI, c_neI, c_lt, c_le, c_gt, c_ge, List.map_cons, List.map_nil, List.length_cons, List.length_nil, List.getElem?_cons_zero, List.getElem?_cons_succ, List.set_cons_zero, List.set_cons_succ, List.cons_append, List.nil_append, List.append_nil, List.replicate, Nat.reduceAdd, Nat.reduceSub, Bool.true_and, Bool.and_true, Bool.false_and, Bool.and_false, Bool.true_or, Bool.or_true, Bool.false_or, Bool.or_false, Bool.not_true, Bool.not_false, if_true, if_false, Bool.false_eq_true, reduceIte, el, mk_l, List.map_append]
      · rcases List.mem_append.mp hx with z | z
        · exact hok x z
        · have : x = l := by simpa using z
          subst this
          exact hl
    rintro ρ ⟨ls, s5, s6, s7, hlen, hok, rfl⟩
    refine gv_rt (d := .lst (ls.map LkD)) (by simp (disch := (first | trivial | omega | (simp only [true_and, and_true, lim, List.length_cons, List.length_nil, List.length_map, List.length_append] <;> first | trivial | omega) | assumption)) only [asOwn, asOwnL, runB, evSs, evS, evE, evEs, evB, evIt, isV, isNo, bind_ok, bind_ex, guard_t, env0, mk_lst, mk_dct, mk_tup, mk_frz, mk_int, mk_bl, mk_str, mk_non, el_lst, el_dct, el_tup, el_frz, el_int, el_bl, el_str, el_non, new_own, new_top, new_pl, io_own, io_top, io_pl, asB_bl, asI_int, ent_top, ent_pl, fr_own, fr_top, fr_pl, pu_int, pu_bl, pu_str, pu_non, pu_tup, pu_lst, pu_nil, pu_cons, pe_lst', no_nil, no_cons, al_nil, al_cons, od_rt, od_nx, ofO_some, d_add, d_sub, d_mul, d_div, d_mod, d_cat, d_catT, c_eqI, c_neI, c_lt, c_le, c_gt, c_ge, List.map_cons, List.map_nil, List.length_cons, List.length_nil, List.getElem?_cons_zero, List.getElem?_cons_succ, List.set_cons_zero, List.set_cons_succ, List.cons_append, List.nil_append, List.append_nil, List.replicate, Nat.reduceAdd, Nat.reduceSub, Bool.true_and, Bool.and_true, Bool.false_and, Bool.and_false, Bool.true_or, Bool.or_true, Bool.false_or, Bool.or_false, Bool.not_true, Bool.not_false, if_true, if_false, Bool.false_eq_true, reduceIte]) ⟨_, rfl, ls, by omega, hok, rfl⟩
  obtain ⟨d, e, ls, a, b, rfl⟩ := G
  exact ⟨ls, a, b, e⟩
end PyV
namespace PyV
open PySem L2
theorem compM_on {α : Type} {f : D → M (Option R)} {h : α → D} {g : α → R} : ∀ {xs : List α}, (∀ x ∈ xs, f (h x) = .ok (some (g x))) → compM f (xs.map h) = .ok (xs.map g)
  | [], _ => rfl
  | x :: xs, q => by
    show (f (h x)).bind _ = _
    rw [q x List.mem_cons_self, bind_ok, compM_on (xs := xs) fun y hy => q y (List.mem_cons_of_mem _ hy)]
    rfl
theorem nice_optD (o : Option (List Int)) : Nice 1 (optD o) := by
  cases o with
  | none => trivial
  | some r => exact nice_tints r
theorem nice_opts (os : List (Option (List Int))) : Nice 2 (.lst (os.map optD)) := fun x hx => by
  obtain ⟨o, _, rfl⟩ := List.mem_map.mp hx
  exact nice_optD o
theorem nice_pD (p : Int × Int) : Nice 1 (pD p) := nice_tints [p.1, p.2]
theorem nice_lk (l : Lk) : Nice 3 (LkD l) := fun x hx => by
  have hx : x = .tup (l.1.map D.int) ∨ x = sD l.2 := by simpa [LkD, lD] using hx
  rcases hx with rfl | rfl
  · intro y hy
    obtain ⟨i, _, rfl⟩ := List.mem_map.mp hy
    trivial
  · intro y hy
    obtain ⟨p, _, rfl⟩ := List.mem_map.mp hy
    exact nice_pD p
theorem nice_lks (ls : List Lk) : Nice 4 (.lst (ls.map LkD)) := fun x hx => by
  obtain ⟨l, _, rfl⟩ := List.mem_map.mp hx
  exact nice_lk l
theorem eqv_non (o : Option (List Int)) : PyData.eqv (py (optD o)) (py .non) = o.isNone := by
  cases o <;> simp [optD, py, PyData.eqv]
theorem deep_non (os : List (Option (List Int))) : dInDeep .non (os.map optD) = os.any Option.isNone := by
  unfold dInDeep
  induction os with
  | nil => rfl
  | cons o os ih =>
    show ((PyData.eqv (py (optD o)) (py .non)) || _) = _
    rw [eqv_non, List.any_cons]
    congr 1
theorem flat_non (os : List (Option (List Int))) (h : (os.map optD).all flatD = true) : dIn .non (os.map optD) = os.any Option.isNone := by
  unfold dIn
  rw [List.any_map]
  have : ∀ o ∈ os, eqV (flatVD (optD o)) (flatVD .non) = o.isNone := fun o ho => by
    have := List.all_eq_true.mp h (optD o) (List.mem_map.mpr ⟨o, ho, rfl⟩)
    cases o with
    | none => rfl
    | some r => cases this
  clear h
  induction os with
  | nil => rfl
  | cons o os ih =>
    rw [List.any_cons, List.any_cons, ih fun x hx => this x (List.mem_cons_of_mem _ hx)]
    have h0 := this o List.mem_cons_self
    show (eqV (flatVD (optD o)) (flatVD .non) || _) = _
    rw [h0]
theorem in_non (os : List (Option (List Int))) (neg : Bool) : dInAny neg .non (.lst (os.map optD)) = .ok (.bl (if neg then !os.any Option.isNone else os.any Option.isNone)) := by
  show (if flatD .non = true ∧ (os.map optD).all flatD = true then M.ok (D.bl (if neg then !dIn .non (os.map optD) else dIn .non (os.map optD))) else guard' (eqOk .non = true ∧ eqOk (.lst (os.map optD)) = true) (.ok (.bl (if neg then !dInDeep .non (os.map optD) else dInDeep .non (os.map optD))))) = _
  by_cases h : (os.map optD).all flatD = true
  · rw [if_pos ⟨rfl, h⟩, flat_non os h]
  · rw [if_neg fun z => h z.2, guard_t ⟨rfl, (nice_opts os).ok⟩, deep_non]
theorem c_in_non (os : List (Option (List Int))) : dCmp .In .non (.lst (os.map optD)) = .ok (.bl (os.any Option.isNone)) := in_non os false
theorem c_ni_non (os : List (Option (List Int))) : dCmp .NotIn .non (.lst (os.map optD)) = .ok (.bl (!os.any Option.isNone)) := in_non os true
theorem mapM_none : ∀ {os : List (Option (List Int))}, os.mapM id = none → os.any Option.isNone = true
  | [], h => by cases h
  | none :: os, _ => rfl
  | some r :: os, h => by
    rw [List.any_cons]
    have : os.mapM id = none := by
      cases e : os.mapM id with
      | none => rfl
      | some rs =>
        rw [List.mapM_cons] at h
        simp [e] at h
    rw [mapM_none this]
    rfl
theorem mapM_some : ∀ {os : List (Option (List Int))} {rs : List (List Int)}, os.mapM id = some rs → os = rs.map some
  | [], rs, h => by
    have h : some [] = some rs := h
    cases h
    rfl
  | none :: os, rs, h => by cases h
  | some r :: os, rs, h => by
    rw [List.mapM_cons] at h
    cases e : os.mapM id with
    | none => simp [e] at h
    | some qs =>
      have h : some (r :: qs) = some rs := by simpa [e] using h
      cases h
      rw [mapM_some e]
      rfl
theorem optD_some (rs : List (List Int)) : (rs.map some).map optD = rs.map tI := by
  rw [List.map_map]
  rfl
theorem any_some (rs : List (List Int)) : (rs.map some).any Option.isNone = false := by
  induction rs with
  | nil => rfl
  | cons r rs ih => rw [List.map_cons, List.any_cons, ih]; rfl
theorem set_take {n : Nat} : ∀ {br : List Int} {a : Int} (m : Nat), SetFrom n a br → SetFrom n a (br.take m)
  | [], _, m, _ => by rw [List.take_nil]; trivial
  | _ :: _, _, 0, _ => trivial
  | p :: r, a, m + 1, ⟨h, g⟩ => ⟨h, set_take m g⟩
theorem set_range (n : Nat) : SetFrom n (-1) (rangeI n) := by
  have := (set_filter (fun _ => true) n n 0 (by omega)).1
  rw [List.filter_eq_self.mpr fun _ _ => rfl] at this
  unfold rangeI
  rw [List.range_eq_range', Int.toNat_natCast]
  exact this
theorem trg_ev {S : Sig} {ρ : Env} {a b : IE} {j : Int} {k1 k2 : Kd} (h1 : evE S a ρ = .ok (k1, .int 0)) (h2 : evE S b ρ = .ok (k2, .int j)) (h : 0 ≤ j ∧ j ≤ 1000) : evE S (.trg a b) ρ = .ok (.pl true, bD (rangeI j)) := by
  rw [evE, h1, bind_ok, h2, bind_ok]
  dsimp only
  have g : -(2 ^ 62) ≤ (0 : Int) ∧ (0 : Int) < 2 ^ 62 ∧ -(2 ^ 62) ≤ j ∧ j < 2 ^ 62 ∧ (j - 0).toNat ≤ lim := ⟨by omega, by omega, by omega, by omega, by unfold lim; omega⟩
  rw [guard_t g, rngD_I]
  rfl
theorem trg_b (r : Int) : D.tup (rngD 0 r) = bD (rangeI r) := by rw [rngD_I]; rfl
theorem cut_to (xs : List D) (n : Nat) : cutD xs none (some (n : Int)) = xs.take n := by
  have s1 : HT.sIx xs.length 0 none = 0 := rfl
  have s2 : HT.sIx xs.length xs.length (some (n : Int)) = min n xs.length := by
    have h0 : ∀ k : Int, 0 ≤ k → HT.sIx xs.length xs.length (some k) = min k.toNat xs.length := fun k hk => if_neg (by omega)
    rw [h0 _ (by omega), Int.toNat_natCast]
  unfold cutD
  rw [s1, s2, List.drop_zero, Nat.sub_zero]
  by_cases h : n ≤ xs.length
  · rw [Nat.min_eq_left h]
  · rw [Nat.min_eq_right (by omega), List.take_of_length_le (Nat.le_refl _), List.take_of_length_le (by omega)]
theorem sl_bD (br : List Int) (n : Nat) : dSl (bD br) none (some (n : Int)) = .ok (bD (br.take n)) := by
  show M.ok (D.tup (cutD (br.map D.int) none (some (n : Int)))) = _
  rw [cut_to, ← List.map_take]
  rfl
theorem mk_b (n : Bool) (br : List Int) : mkR n (bD br) = (.pl n, bD br) := rfl
theorem el_b (n : Bool) (br : List Int) : elR n (bD br) = (.pl n, bD br) := rfl
theorem sl_lks (ls : List Lk) (n : Nat) : dSl (.lst (ls.map LkD)) none (some (n : Int)) = .ok (.lst ((ls.take n).map LkD)) := by
  show M.ok (D.lst (cutD (ls.map LkD) none (some (n : Int)))) = _
  rw [cut_to, ← List.map_take]
theorem mk_opt' (n : Bool) (o : Option (List Int)) : ∃ k, mkR true (optD o) = (.pl k, optD o) ∧ k = true := by
  cases o <;> exact ⟨true, rfl, rfl⟩
theorem mk_optT (o : Option (List Int)) : mkR true (optD o) = (.pl true, optD o) := by cases o <;> rfl
theorem el_optT (o : Option (List Int)) : elR true (optD o) = (.pl true, optD o) := by cases o <;> rfl
/-- a for whose turns all go on -/
theorem forIf_no {S : Sig} {ρ : Env} {ts : List Nat} {a c e : IE} {n : Nat} {kd : Kd} (P : Env → Prop) (h : evE S a ρ = .ok (kd, .int n)) (hn : n < 1000000) (h0 : P ρ)
    (g : ∀ j ρ, j < n → P ρ → ∃ ρ', bindT true (.int (j : Nat)) ρ ts = .ok ρ' ∧ P ρ' ∧ ∃ k, evE S c ρ' = .ok (k, .bl false)) : ∃ ρ', evS S (.forIf ts (.r1 a) c e) ρ = .ok (.nx ρ') ∧ P ρ' := by
  have g0 : -(2 ^ 62) ≤ (n : Int) ∧ (n : Int) < 2 ^ 62 := ⟨by omega, by omega⟩
  have q := loop_rngP (f := fun ρ x => (bindT true x ρ ts).bind fun ρ' => (evE S c ρ').bind fun y => (asB y).bind fun b => if b then (evE S e ρ').bind fun r => guard' (freshR r = true) (.ok (.rt r.2)) else .ok (.nx ρ')) (n := n) (fun _ => P) h0 (by
    intro j ρ hj hp
    obtain ⟨ρ', e1, p', k, e2⟩ := g j ρ hj hp
    refine ⟨ρ', ?_, p'⟩
    rw [e1, bind_ok, e2, bind_ok]
    rfl)
  obtain ⟨ρ', e1, p⟩ := q
  refine ⟨ρ', ?_, p⟩
  rw [evS, evIt, h, bind_ok]
  dsimp only
  rw [guard_t g0, bind_ok]
  exact e1
end PyV
namespace PyV
open PySem L2
/-! ### rows that fit, one part behind another -/
def ExtI (w : Wk) (t : List (Int × Int)) (br : List Int) : Nat → List Pt → List Int → List Int → Prop
  | _, [], r0, r => r = r0
  | k, p :: ps, r0, r => ∃ d, d ∈ choicesI w.ring br k p r0 ∧ okI w t k d = true ∧ ExtI w t br (k + 1) ps (r0 ++ [d]) r
theorem mem_step {w : Wk} {t : List (Int × Int)} {br : List Int} {k : Nat} {p : Pt} {rows : List (List Int)} {r : List Int} : r ∈ stepI w t br k p rows ↔ ∃ r0 ∈ rows, ∃ d, d ∈ choicesI w.ring br k p r0 ∧ okI w t k d = true ∧ r = r0 ++ [d] := by
  unfold stepI
  rw [List.mem_flatMap]
  constructor
  · rintro ⟨r0, h0, h⟩
    obtain ⟨d, hd, rfl⟩ := List.mem_map.mp h
    obtain ⟨h1, h2⟩ := List.mem_filter.mp hd
    exact ⟨r0, h0, d, h1, h2, rfl⟩
  · rintro ⟨r0, h0, d, h1, h2, rfl⟩
    exact ⟨r0, h0, List.mem_map.mpr ⟨d, List.mem_filter.mpr ⟨h1, h2⟩, rfl⟩⟩
theorem mem_all {w : Wk} {t : List (Int × Int)} {br : List Int} {r : List Int} : ∀ {ps : List Pt} {k : Nat} {rows : List (List Int)}, r ∈ allI w t br k ps rows ↔ ∃ r0 ∈ rows, ExtI w t br k ps r0 r
  | [], k, rows => ⟨fun h => ⟨r, h, rfl⟩, fun ⟨r0, h, e⟩ => by
    have e : r = r0 := e
    subst e
    exact h⟩
  | p :: ps, k, rows => by
    show r ∈ allI w t br (k + 1) ps (stepI w t br k p rows) ↔ _
    rw [mem_all]
    constructor
    · rintro ⟨r1, h1, h⟩
      obtain ⟨r0, h0, d, g1, g2, rfl⟩ := mem_step.mp h1
      exact ⟨r0, h0, d, g1, g2, h⟩
    · rintro ⟨r0, h0, d, g1, g2, h⟩
      exact ⟨_, mem_step.mpr ⟨r0, h0, d, g1, g2, rfl⟩, h⟩
theorem ext_pre {w : Wk} {t : List (Int × Int)} {br : List Int} : ∀ {ps : List Pt} {k : Nat} {r0 r : List Int}, ExtI w t br k ps r0 r → ∃ e, r = r0 ++ e ∧ e.length = ps.length
  | [], _, r0, r, h => ⟨[], by rw [show r = r0 from h, List.append_nil], rfl⟩
  | p :: ps, k, r0, r, ⟨d, _, _, h⟩ => by
    obtain ⟨e, h1, h2⟩ := ext_pre h
    exact ⟨d :: e, by rw [h1, List.append_assoc]; rfl, by rw [List.length_cons, List.length_cons, h2]⟩
theorem dig_app {r0 e : List Int} {j : Int} (h : 0 ≤ j ∧ j < r0.length) : dig (r0 ++ e) j = dig r0 j := by
  unfold dig
  rw [List.getD_eq_getElem?_getD, List.getD_eq_getElem?_getD, List.getElem?_append_left (by omega)]
theorem dig_last (r0 : List Int) (d : Int) (e : List Int) : dig (r0 ++ [d] ++ e) (r0.length : Int) = d := by
  unfold dig
  rw [List.getD_eq_getElem?_getD, Int.toNat_natCast, List.append_assoc, List.getElem?_append_right (Nat.le_refl _), Nat.sub_self]
  rfl
theorem fill_some {w : Wk} {t : List (Int × Int)} {br : List Int} {ps : List Pt} {k : Nat} {ds : List Int} : fillI w t br k ps ds ≠ none ↔ ∃ r, ExtI w t br k ps ds r := by
  rw [fill_head]
  have key : ∀ r, r ∈ allI w t br k ps [ds] ↔ ExtI w t br k ps ds r := fun r => by
    rw [mem_all]
    exact ⟨fun ⟨r0, h0, h⟩ => by simp at h0; subst h0; exact h, fun h => ⟨ds, List.mem_cons_self, h⟩⟩
  cases e : allI w t br k ps [ds] with
  | nil =>
    refine ⟨fun h => absurd rfl h, fun ⟨r, h⟩ => ?_⟩
    have := (key r).mpr h
    rw [e] at this
    cases this
  | cons r rs => exact ⟨fun _ => ⟨r, (key r).mp (by rw [e]; exact List.mem_cons_self)⟩, fun _ z => by cases z⟩
/-! ### a digit seen at a line more -/
theorem ok_put {w : Wk} {t : List (Int × Int)} {j k : Nat} {d x : Int} : okI w (putI t ((w.inp + j : Nat) : Int) d) k x = if k = j then decide (d = x) else okI w t k x := by
  unfold okI
  rw [look_put]
  by_cases h : k = j
  · subst h
    rw [if_pos rfl, if_pos rfl]
    rfl
  · rw [if_neg h, if_neg (by omega)]
theorem ext_put_far {w : Wk} {t : List (Int × Int)} {br : List Int} {j : Nat} {d : Int} : ∀ {ps : List Pt} {k : Nat} {r0 r : List Int}, j < k → (ExtI w (putI t ((w.inp + j : Nat) : Int) d) br k ps r0 r ↔ ExtI w t br k ps r0 r)
  | [], _, _, _, _ => Iff.rfl
  | p :: ps, k, r0, r, h => by
    have e : ∀ x, okI w (putI t ((w.inp + j : Nat) : Int) d) k x = okI w t k x := fun x => by rw [ok_put, if_neg (by omega)]
    show (∃ x, _ ∧ _ ∧ _) ↔ ∃ x, _ ∧ _ ∧ _
    refine ⟨fun ⟨x, h1, h2, h3⟩ => ⟨x, h1, by rw [← e]; exact h2, (ext_put_far (by omega)).mp h3⟩, fun ⟨x, h1, h2, h3⟩ => ⟨x, h1, by rw [e]; exact h2, (ext_put_far (by omega)).mpr h3⟩⟩
theorem ext_put {w : Wk} {t : List (Int × Int)} {br : List Int} {j : Nat} {d : Int} (hd : okI w t j d = true) : ∀ {ps : List Pt} {k : Nat} {r0 r : List Int}, r0.length = w.inp + k → k ≤ j → j < k + ps.length →
    (ExtI w (putI t ((w.inp + j : Nat) : Int) d) br k ps r0 r ↔ ExtI w t br k ps r0 r ∧ dig r ((w.inp + j : Nat) : Int) = d)
  | [], k, r0, r, _, h1, h2 => by simp at h2; omega
  | p :: ps, k, r0, r, hl, h1, h2 => by
    by_cases hk : k = j
    · subst hk
      have key : ∀ x, ExtI w t br (k + 1) ps (r0 ++ [x]) r → dig r ((w.inp + k : Nat) : Int) = x := fun x h => by
        obtain ⟨e, he, _⟩ := ext_pre h
        rw [he, ← hl]
        exact dig_last r0 x e
      constructor
      · rintro ⟨x, g1, g2, g3⟩
        rw [ok_put, if_pos rfl] at g2
        have e := of_decide_eq_true g2
        subst e
        have g3 := (ext_put_far (by omega)).mp g3
        exact ⟨⟨d, g1, hd, g3⟩, key d g3⟩
      · rintro ⟨⟨x, g1, g2, g3⟩, g4⟩
        have e := key x g3
        rw [g4] at e
        subst e
        exact ⟨d, g1, by rw [ok_put, if_pos rfl]; exact decide_eq_true rfl, (ext_put_far (by omega)).mpr g3⟩
    · have ih := fun x => ext_put (br := br) hd (ps := ps) (k := k + 1) (r0 := r0 ++ [x]) (r := r) (by rw [List.length_append, hl]; rfl) (by omega) (by rw [List.length_cons] at h2; omega)
      constructor
      · rintro ⟨x, g1, g2, g3⟩
        rw [ok_put, if_neg hk] at g2
        obtain ⟨g4, g5⟩ := (ih x).mp g3
        exact ⟨⟨x, g1, g2, g4⟩, g5⟩
      · rintro ⟨⟨x, g1, g2, g3⟩, g4⟩
        exact ⟨x, g1, by rw [ok_put, if_neg hk]; exact g2, (ih x).mpr ⟨g3, g4⟩⟩
/-! ### what a line may show -/
def rowsI (w : Wk) (br : List Int) (l : Lk) : List (List Int) := allI w (dictI l.2) br 0 w.parts [l.1]
def shownI (w : Wk) (br : List Int) (l : Lk) (line : Nat) : List Int := sortU ((rowsI w br l).map fun r => dig r line)
theorem mem_rows {w : Wk} {br : List Int} {l : Lk} {r : List Int} : r ∈ rowsI w br l ↔ ExtI w (dictI l.2) br 0 w.parts l.1 r := by
  unfold rowsI
  rw [mem_all]
  exact ⟨fun ⟨r0, h0, h⟩ => by simp at h0; subst h0; exact h, fun h => ⟨_, List.mem_cons_self, h⟩⟩
theorem mem_shown {w : Wk} {br : List Int} {l : Lk} {line : Nat} {d : Int} : d ∈ shownI w br l line ↔ ∃ r, ExtI w (dictI l.2) br 0 w.parts l.1 r ∧ dig r line = d := by
  unfold shownI
  rw [mem_sortU, List.mem_map]
  exact ⟨fun ⟨r, h, e⟩ => ⟨r, mem_rows.mp h, e⟩, fun ⟨r, h, e⟩ => ⟨r, mem_rows.mpr h, e⟩⟩
/-- every row's digits are digits -/
theorem choices_in {w : Wk} (hw : w.ok) {br : List Int} {k : Nat} {p : Pt} {ds : List Int} (hp : p.ok ds.length) (h : InR w.ring ds) : ∀ d ∈ choicesI w.ring br k p ds, 0 ≤ d ∧ d < w.ring := fun d hd => by
  unfold choicesI at hd
  split at hd
  · exact mem_rangeI.mp hd
  · have : d = p.val w.ring ds := by simpa using hd
    rw [this]
    exact val_in (by have := hw.r2; omega) h hp
theorem ext_in {w : Wk} (hw : w.ok) {t : List (Int × Int)} {br : List Int} : ∀ {ps : List Pt} {k : Nat} {r0 r : List Int}, (∀ (j : Nat) (p : Pt), ps[j]? = some p → p.ok (r0.length + j)) → InR w.ring r0 → ExtI w t br k ps r0 r → InR w.ring r
  | [], _, r0, r, _, h, e => by rw [show r = r0 from e]; exact h
  | p :: ps, k, r0, r, hp, h, ⟨d, h1, h2, h3⟩ => by
    refine ext_in hw (fun j q hq => ?_) (fun x hx => ?_) h3
    · have := hp (j + 1) q (by simpa using hq)
      rw [List.length_append, List.length_cons, List.length_nil, show r0.length + (0 + 1) + j = r0.length + (j + 1) by omega]
      exact this
    · rcases List.mem_append.mp hx with e | e
      · exact h x e
      · have e : x = d := by simpa using e
        subst e
        exact choices_in hw (hp 0 p rfl) h x h1
/-- line by line: what shown collects -/
theorem shown_line {w : Wk} (hw : w.ok) {br : List Int} {l : Lk} (hl : LkOk w l) {j : Nat} (hj : j < w.parts.length) :
    shownI w br l (w.inp + j) = (rangeI w.ring).filter fun d => okI w (dictI l.2) j d && (fillI w (putI (dictI l.2) ((w.inp + j : Nat) : Int) d) br 0 w.parts l.1).isSome := by
  refine sorted_uniq (sortU_lt _) ((rangeI_lt _).filter _) fun d => ?_
  show d ∈ shownI w br l (w.inp + j) ↔ _
  rw [mem_shown, List.mem_filter, Bool.and_eq_true]
  have key : okI w (dictI l.2) j d = true → ((fillI w (putI (dictI l.2) ((w.inp + j : Nat) : Int) d) br 0 w.parts l.1).isSome = true ↔ ∃ r, ExtI w (dictI l.2) br 0 w.parts l.1 r ∧ dig r ((w.inp + j : Nat) : Int) = d) := fun hd => by
    rw [Option.isSome_iff_ne_none, fill_some]
    exact ⟨fun ⟨r, h⟩ => ⟨r, (ext_put hd (by rw [hl.1]; rfl) (by omega) (by omega)).mp h⟩, fun ⟨r, h⟩ => ⟨r, (ext_put hd (by rw [hl.1]; rfl) (by omega) (by omega)).mpr h⟩⟩
  constructor
  · rintro ⟨r, h1, h2⟩
    have hin := ext_in hw (fun i p hp => by rw [hl.1]; exact hw.at_ i p hp) hl.2.1 h1
    have hlen := ext_pre h1
    obtain ⟨e, he, hel⟩ := hlen
    have hd := dig_in hin (j := ((w.inp + j : Nat) : Int)) (by rw [he, List.length_append, hl.1, hel]; omega)
    rw [h2] at hd
    have hok : okI w (dictI l.2) j d = true := by
      have gen : ∀ {ps : List Pt} {k : Nat} {r0 r : List Int}, ExtI w (dictI l.2) br k ps r0 r → r0.length = w.inp + k → k ≤ j → j < k + ps.length → okI w (dictI l.2) j (dig r ((w.inp + j : Nat) : Int)) = true := fun {ps} => by
        induction ps with
        | nil => intro k r0 r _ _ h1 h2; simp at h2; omega
        | cons p ps ih =>
          intro k r0 r ⟨x, g1, g2, g3⟩ hl0 g4 g5
          by_cases hk : k = j
          · subst hk
            obtain ⟨e, he, _⟩ := ext_pre g3
            rw [he, ← hl0, dig_last]
            exact g2
          · exact ih g3 (by rw [List.length_append, hl0]; rfl) (by omega) (by rw [List.length_cons] at g5; omega)
      have := gen h1 hl.1 (Nat.zero_le _) (by omega)
      rw [h2] at this
      exact this
    exact ⟨mem_rangeI.mpr hd, hok, (key hok).mpr ⟨r, h1, h2⟩⟩
  · rintro ⟨_, hok, h⟩
    exact (key hok).mp h
theorem shown_input {w : Wk} {br : List Int} {l : Lk} (hl : LkOk w l) {i : Nat} (hi : i < w.inp) :
    shownI w br l i = if (roomI w br l).isSome then [dig l.1 i] else [] := by
  refine sorted_uniq (sortU_lt _) (by split <;> simp) fun d => ?_
  show d ∈ shownI w br l i ↔ _
  rw [mem_shown]
  have key : (roomI w br l).isSome = true ↔ ∃ r, ExtI w (dictI l.2) br 0 w.parts l.1 r := by
    unfold roomI
    rw [Option.isSome_iff_ne_none, fill_some]
  have dg : ∀ r, ExtI w (dictI l.2) br 0 w.parts l.1 r → dig r (i : Int) = dig l.1 i := fun r h => by
    obtain ⟨e, he, _⟩ := ext_pre h
    rw [he, dig_app (by have := hl.1; omega)]
  by_cases hr : (roomI w br l).isSome = true
  · rw [if_pos hr]
    obtain ⟨r, h⟩ := key.mp hr
    simp only [List.mem_singleton]
    exact ⟨fun ⟨r', h', e⟩ => by rw [← e, dg r' h'], fun e => ⟨r, h, by rw [dg r h, e]⟩⟩
  · rw [if_neg hr]
    simp only [List.not_mem_nil, iff_false]
    rintro ⟨r, h, _⟩
    exact hr (key.mpr ⟨r, h⟩)
end PyV
namespace PyV
open PySem L2
theorem isN_opt (o : Option (List Int)) : dCmp .IsNot (optD o) .non = .ok (.bl o.isSome) := by cases o <;> rfl
theorem pureL_tK (t : List (Int × Int)) : pureL ((tK t).map (·.2)) = true := by
  unfold tK
  rw [List.map_map]
  induction t with
  | nil => rfl
  | cons p t ih => exact ih
theorem pe_t (t : List (Int × Int)) : pureE (tD t) = true := pureL_tK t
theorem range_succ_int (n : Nat) : rangeI ((n + 1 : Nat) : Int) = rangeI (n : Int) ++ [(n : Int)] := by
  unfold rangeI
  rw [Int.toNat_natCast, Int.toNat_natCast, List.range_succ, List.map_append]
  rfl
def shownF (nl se ia fl : Nat) : Fn := ⟨4, 7, (.cons (.exp (.call nl (.cons (.v 0) (.cons (.v 1) .nil)))) (.cons (.exp (.call se (.cons (.v 0) (.cons (.v 2) .nil)))) (.cons (.iff (.nt (.call ia (.cons (.v 3) (.cons (.ki 0) (.cons (.bin .Sub (.bin .Add (.ix (.v 0) (.ki 1)) (.bl .len (.cons (.ix (.v 0) (.ki 2)) .nil))) (.ki 1)) .nil))))) (.cons (.rai "NoLine") .nil) .nil) (.cons (.set 4 true (.lst .nil)) (.cons (.forr [5] (.r1 (.ix (.v 0) (.ki 0))) (.cons (.set 6 true (.bl .dict (.cons (.ix (.v 1) (.ki 1)) .nil))) (.cons (.iff (.bop .And (.cons (.cmp .GtE (.v 3) (.ix (.v 0) (.ki 1))) (.cons (.cmp .Eq (.get2 (.v 6) (.v 3) (.v 5)) (.v 5)) .nil))) (.cons (.sub 6 (.v 3) (.v 5)) (.cons (.iff (.cmp .IsNot (.call fl (.cons (.v 0) (.cons (.bl .list (.cons (.ix (.v 1) (.ki 0)) .nil)) (.cons (.v 6) (.cons (.v 2) .nil))))) .kn) (.cons (.app 4 (.v 5)) .nil) .nil) .nil)) .nil) .nil))) (.cons (.iff (.bop .And (.cons (.cmp .Lt (.v 3) (.ix (.v 0) (.ki 1))) (.cons (.cmp .IsNot (.call fl (.cons (.v 0) (.cons (.bl .list (.cons (.ix (.v 1) (.ki 0)) .nil)) (.cons (.bl .dict (.cons (.ix (.v 1) (.ki 1)) .nil)) (.cons (.v 2) .nil))))) .kn) .nil))) (.cons (.app 4 (.ix (.ix (.v 1) (.ki 0)) (.v 3))) .nil) .nil) (.cons (.ret (.v 4)) .nil)))))))⟩
theorem ixL0 (l : Lk) : dIx (LkD l) (.int 0) = .ok (.tup (l.1.map D.int)) := rfl
theorem ixL1 (l : Lk) : dIx (LkD l) (.int 1) = .ok (sD l.2) := rfl
theorem run_shown (S : Sig) (nl se ia fl : Nat) {w : Wk} (hw : w.ok) {l : Lk} (hl : LkOk w l) {br : List Int} {line : Nat} (hln : line < w.inp + w.parts.length)
    (h1 : S.call nl [w.D, LkD l] = .ok (.bl true)) (h2 : S.call se [w.D, bD br] = .ok (.bl true))
    (h3 : ∀ i lo hi : Int, S.call ia [.int i, .int lo, .int hi] = .ok (.bl (decide (lo ≤ i) && decide (i ≤ hi))))
    (h4 : ∀ t : List (Int × Int), S.call fl [w.D, .lst (l.1.map D.int), tD t, bD br] = .ok (optD (fillI w t br 0 w.parts l.1))) :
    runB S (shownF nl se ia fl) [w.D, LkD l, bD br, .int line] = .ok (.lst ((shownI w br l line).map D.int)) := by
  have r2 := hw.r2
  have r5 := hw.r5
  have i6 := hw.i6
  have p10 := hw.p10
  obtain ⟨rn, hrn⟩ : ∃ n : Nat, (n : Int) = w.ring := ⟨w.ring.toNat, by omega⟩
  have hp := pureL_ints l.1
  unfold shownF
  refine gv_eq (gv_run (P := fun b => b = .lst ((shownI w br l line).map D.int)) ?_)
  (apply gv_step; focus (simp (disch := (first | trivial | omega | (simp only [true_and, and_true, lim, List.length_cons, List.length_nil, List.length_map, List.length_append] <;> first | trivial | omega) | assumption)) only [asOwn, asOwnL, runB, evSs, evS, evE, evEs, evB, evIt, isV, isNo, bind_ok, bind_ex, guard_t, env0, mk_lst, mk_dct, mk_tup, mk_frz, mk_int, mk_bl, mk_str, mk_non, el_lst, el_dct, el_tup, el_frz, el_int, el_bl, el_str, el_non, new_own, new_top, new_pl, io_own, io_top, io_pl, asB_bl, asI_int, ent_top, ent_pl, fr_own, fr_top, fr_pl, pu_int, pu_bl, pu_str, pu_non, pu_tup, pu_lst, pu_nil, pu_cons, pe_lst', no_nil, no_cons, al_nil, al_cons, od_rt, od_nx, ofO_some, d_add, d_sub, d_mul, d_div, d_mod, d_cat, d_catT, c_eqI, c_neI, c_lt, c_le, c_gt, c_ge, List.map_cons, List.map_nil, List.length_cons, List.length_nil, List.getElem?_cons_zero, List.getElem?_cons_succ, List.set_cons_zero, List.set_cons_succ, List.cons_append, List.nil_append, List.append_nil, List.replicate, Nat.reduceAdd, Nat.reduceSub, Bool.true_and, Bool.and_true, Bool.false_and, Bool.and_false, Bool.true_or, Bool.or_true, Bool.false_or, Bool.or_false, Bool.not_true, Bool.not_false, if_true, if_false, Bool.false_eq_true, reduceIte, h1]; exact rfl))
  (apply gv_step; focus (simp (disch := (first | trivial | omega | (simp only [true_and, and_true, lim, List.length_cons, List.length_nil, List.length_map, List.length_append] <;> first | trivial | omega) | assumption)) only [asOwn, asOwnL, runB, evSs, evS, evE, evEs, evB, evIt, isV, isNo, bind_ok, bind_ex, guard_t, env0, mk_lst, mk_dct, mk_tup, mk_frz, mk_int, mk_bl, mk_str, mk_non, el_lst, el_dct, el_tup, el_frz, el_int, el_bl, el_str, el_non, new_own, new_top, new_pl, io_own, io_top, io_pl, asB_bl, asI_int, ent_top, ent_pl, fr_own, fr_top, fr_pl, pu_int, pu_bl, pu_str, pu_non, pu_tup, pu_lst, pu_nil, pu_cons, pe_lst', no_nil, no_cons, al_nil, al_cons, od_rt, od_nx, ofO_some, d_add, d_sub, d_mul, d_div, d_mod, d_cat, d_catT, c_eqI, c_neI, c_lt, c_le, c_gt, c_ge, List.map_cons, List.map_nil, List.length_cons, List.length_nil, List.getElem?_cons_zero, List.getElem?_cons_succ, List.set_cons_zero, List.set_cons_succ, List.cons_append, List.nil_append, List.append_nil, List.replicate, Nat.reduceAdd, Nat.reduceSub, Bool.true_and, Bool.and_true, Bool.false_and, Bool.and_false, Bool.true_or, Bool.or_true, Bool.false_or, Bool.or_false, Bool.not_true, Bool.not_false, if_true, if_false, Bool.false_eq_true, reduceIte, h2]; exact rfl))
  apply gv_step
  · have d1 : decide ((0 : Int) ≤ line) = true := decide_eq_true (by omega)
    have d2 : decide ((line : Int) ≤ (w.inp : Int) + w.parts.length - 1) = true := decide_eq_true (by omega)
    refine if_f (k := .pl true) ?_ seq_nil
    simp (disch := (first | trivial | omega | (simp only [true_and, and_true, lim, List.length_cons, List.length_nil, List.length_map, List.length_append] <;> first | trivial | omega) | assumption)) only [asOwn, asOwnL, runB, evSs, evS, evE, evEs, evB, evIt, isV, isNo, bind_ok, bind_ex, guard_t, env0, mk_lst, mk_dct, mk_tup, mk_frz, mk_int, mk_bl, mk_str, mk_non, el_lst, el_dct, el_tup, el_frz, el_int, el_bl, el_str, el_non, new_own, new_top, new_pl, io_own, io_top, io_pl, asB_bl, asI_int, ent_top, ent_pl, fr_own, fr_top, fr_pl, pu_int, pu_bl, pu_str, pu_non, pu_tup, pu_lst, pu_nil, pu_cons, pe_lst', no_nil, no_cons, al_nil, al_cons, od_rt, od_nx, ofO_some, d_add, d_sub, d_mul, d_div, d_mod, d_cat, d_catT, c_eqI, c_neI, c_lt, c_le, c_gt, c_ge, List.map_cons, List.map_nil, List.length_cons, List.length_nil, List.getElem?_cons_zero, List.getElem?_cons_succ, List.set_cons_zero, List.set_cons_succ, List.cons_append, List.nil_append, List.append_nil, List.replicate, Nat.reduceAdd, Nat.reduceSub, Bool.true_and, Bool.and_true, Bool.false_and, Bool.and_false, Bool.true_or, Bool.or_true, Bool.false_or, Bool.or_false, Bool.not_true, Bool.not_false, if_true, if_false, Bool.false_eq_true, reduceIte, ixw1, ixw2, len_lst, List.length_map, h3, d1, d2]
  (apply gv_step; focus (simp (disch := (first | trivial | omega | (simp only [true_and, and_true, lim, List.length_cons, List.length_nil, List.length_map, List.length_append] <;> first | trivial | omega) | assumption)) only [asOwn, asOwnL, runB, evSs, evS, evE, evEs, evB, evIt, isV, isNo, bind_ok, bind_ex, guard_t, env0, mk_lst, mk_dct, mk_tup, mk_frz, mk_int, mk_bl, mk_str, mk_non, el_lst, el_dct, el_tup, el_frz, el_int, el_bl, el_str, el_non, new_own, new_top, new_pl, io_own, io_top, io_pl, asB_bl, asI_int, ent_top, ent_pl, fr_own, fr_top, fr_pl, pu_int, pu_bl, pu_str, pu_non, pu_tup, pu_lst, pu_nil, pu_cons, pe_lst', no_nil, no_cons, al_nil, al_cons, od_rt, od_nx, ofO_some, d_add, d_sub, d_mul, d_div, d_mod, d_cat, d_catT, c_eqI, c_neI, c_lt, c_le, c_gt, c_ge, List.map_cons, List.map_nil, List.length_cons, List.length_nil, List.getElem?_cons_zero, List.getElem?_cons_succ, List.set_cons_zero, List.set_cons_succ, List.cons_append, List.nil_append, List.append_nil, List.replicate, Nat.reduceAdd, Nat.reduceSub, Bool.true_and, Bool.and_true, Bool.false_and, Bool.and_false, Bool.true_or, Bool.or_true, Bool.false_or, Bool.or_false, Bool.not_true, Bool.not_false, if_true, if_false, Bool.false_eq_true, reduceIte]; exact rfl))
  by_cases hc : line < w.inp
  · -- an input's line
    have g1 : decide ((w.inp : Int) ≤ line) = false := decide_eq_false (by omega)
    have g2 : decide ((line : Int) < w.inp) = true := decide_eq_true (by omega)
    refine gv_P (for_r1P (n := rn) (kd := .pl true) (fun _ ρ => ∃ s5 s6, ρ = [some (.old, w.D), some (.old, LkD l), some (.old, bD br), some (.old, .int line), some (.own, .lst []), s5, s6]) (by simp (disch := (first | trivial | omega | (simp only [true_and, and_true, lim, List.length_cons, List.length_nil, List.length_map, List.length_append] <;> first | trivial | omega) | assumption)) only [asOwn, asOwnL, runB, evSs, evS, evE, evEs, evB, evIt, isV, isNo, bind_ok, bind_ex, guard_t, env0, mk_lst, mk_dct, mk_tup, mk_frz, mk_int, mk_bl, mk_str, mk_non, el_lst, el_dct, el_tup, el_frz, el_int, el_bl, el_str, el_non, new_own, new_top, new_pl, io_own, io_top, io_pl, asB_bl, asI_int, ent_top, ent_pl, fr_own, fr_top, fr_pl, pu_int, pu_bl, pu_str, pu_non, pu_tup, pu_lst, pu_nil, pu_cons, pe_lst', no_nil, no_cons, al_nil, al_cons, od_rt, od_nx, ofO_some, d_add, d_sub, d_mul, d_div, d_mod, d_cat, d_catT, c_eqI, c_neI, c_lt, c_le, c_gt, c_ge, List.map_cons, List.map_nil, List.length_cons, List.length_nil, List.getElem?_cons_zero, List.getElem?_cons_succ, List.set_cons_zero, List.set_cons_succ, List.cons_append, List.nil_append, List.append_nil, List.replicate, Nat.reduceAdd, Nat.reduceSub, Bool.true_and, Bool.and_true, Bool.false_and, Bool.and_false, Bool.true_or, Bool.or_true, Bool.false_or, Bool.or_false, Bool.not_true, Bool.not_false, if_true, if_false, Bool.false_eq_true, reduceIte, ixw0, hrn]) (by omega) ⟨none, none, rfl⟩ ?_) ?_
    · rintro j ρ hj ⟨s5, s6, rfl⟩
      refine ⟨_, ?_, some (.new, .int j), some (.own, tD (dictI l.2)), rfl⟩
      rw [bindT_1, bind_ok, setE_int]
      have e0 := pe_t (dictI l.2)
      apply seq_step
      · simp (disch := (first | trivial | omega | (simp only [true_and, and_true, lim, List.length_cons, List.length_nil, List.length_map, List.length_append] <;> first | trivial | omega) | assumption)) only [asOwn, asOwnL, runB, evSs, evS, evE, evEs, evB, evIt, isV, isNo, bind_ok, bind_ex, guard_t, env0, mk_lst, mk_dct, mk_tup, mk_frz, mk_int, mk_bl, mk_str, mk_non, el_lst, el_dct, el_tup, el_frz, el_int, el_bl, el_str, el_non, new_own, new_top, new_pl, io_own, io_top, io_pl, asB_bl, asI_int, ent_top, ent_pl, fr_own, fr_top, fr_pl, pu_int, pu_bl, pu_str, pu_non, pu_tup, pu_lst, pu_nil, pu_cons, pe_lst', no_nil, no_cons, al_nil, al_cons, od_rt, od_nx, ofO_some, d_add, d_sub, d_mul, d_div, d_mod, d_cat, d_catT, c_eqI, c_neI, c_lt, c_le, c_gt, c_ge, List.map_cons, List.map_nil, List.length_cons, List.length_nil, List.getElem?_cons_zero, List.getElem?_cons_succ, List.set_cons_zero, List.set_cons_succ, List.cons_append, List.nil_append, List.append_nil, List.replicate, Nat.reduceAdd, Nat.reduceSub, Bool.true_and, Bool.and_true, Bool.false_and, Bool.and_false, Bool.true_or, Bool.or_true, Bool.false_or, Bool.or_false, Bool.not_true, Bool.not_false, if_true, if_false, Bool.false_eq_true, reduceIte, ixL1, el_s, dict_s, mk_t, e0]
        exact rfl
      refine seq_last (if_f (k := .pl true) ?_ seq_nil)
      simp (disch := (first | trivial | omega | (simp only [true_and, and_true, lim, List.length_cons, List.length_nil, List.length_map, List.length_append] <;> first | trivial | omega) | assumption)) only [asOwn, asOwnL, runB, evSs, evS, evE, evEs, evB, evIt, isV, isNo, bind_ok, bind_ex, guard_t, env0, mk_lst, mk_dct, mk_tup, mk_frz, mk_int, mk_bl, mk_str, mk_non, el_lst, el_dct, el_tup, el_frz, el_int, el_bl, el_str, el_non, new_own, new_top, new_pl, io_own, io_top, io_pl, asB_bl, asI_int, ent_top, ent_pl, fr_own, fr_top, fr_pl, pu_int, pu_bl, pu_str, pu_non, pu_tup, pu_lst, pu_nil, pu_cons, pe_lst', no_nil, no_cons, al_nil, al_cons, od_rt, od_nx, ofO_some, d_add, d_sub, d_mul, d_div, d_mod, d_cat, d_catT, c_eqI, c_neI, c_lt, c_le, c_gt, c_ge, List.map_cons, List.map_nil, List.length_cons, List.length_nil, List.getElem?_cons_zero, List.getElem?_cons_succ, List.set_cons_zero, List.set_cons_succ, List.cons_append, List.nil_append, List.append_nil, List.replicate, Nat.reduceAdd, Nat.reduceSub, Bool.true_and, Bool.and_true, Bool.false_and, Bool.and_false, Bool.true_or, Bool.or_true, Bool.false_or, Bool.or_false, Bool.not_true, Bool.not_false, if_true, if_false, Bool.false_eq_true, reduceIte, ixw1, g1]
    rintro ρ ⟨s5, s6, rfl⟩
    have e4 := h4 (dictI l.2)
    have e5 := isN_opt (fillI w (dictI l.2) br 0 w.parts l.1)
    have sh := shown_input (br := br) hl hc
    have eix : dIx (.tup (l.1.map D.int)) (.int line) = .ok (.int (dig l.1 line)) := by
      have := hl.1
      rw [ix_tup (by rw [List.length_map]; omega), List.getElem?_map]
      unfold dig
      rw [List.getD_eq_getElem?_getD, List.getElem?_eq_getElem (by omega)]
      rfl
    unfold roomI at sh
    by_cases hr : (fillI w (dictI l.2) br 0 w.parts l.1).isSome = true
    · rw [if_pos hr] at sh
      rw [hr] at e5
      rw [sh]
      apply gv_step
      · refine if_t (k := .pl true) ?_ (seq_last ?_)
        · simp (disch := (first | trivial | omega | (simp only [true_and, and_true, lim, List.length_cons, List.length_nil, List.length_map, List.length_append] <;> first | trivial | omega) | assumption)) only [asOwn, asOwnL, runB, evSs, evS, evE, evEs, evB, evIt, isV, isNo, bind_ok, bind_ex, guard_t, env0, mk_lst, mk_dct, mk_tup, mk_frz, mk_int, mk_bl, mk_str, mk_non, el_lst, el_dct, el_tup, el_frz, el_int, el_bl, el_str, el_non, new_own, new_top, new_pl, io_own, io_top, io_pl, asB_bl, asI_int, ent_top, ent_pl, fr_own, fr_top, fr_pl, pu_int, pu_bl, pu_str, pu_non, pu_tup, pu_lst, pu_nil, pu_cons, pe_lst', no_nil, no_cons, al_nil, al_cons, od_rt, od_nx, ofO_some, d_add, d_sub, d_mul, d_div, d_mod, d_cat, d_catT, c_eqI, c_neI, c_lt, c_le, c_gt, c_ge, List.map_cons, List.map_nil, List.length_cons, List.length_nil, List.getElem?_cons_zero, List.getElem?_cons_succ, List.set_cons_zero, List.set_cons_succ, List.cons_append, List.nil_append, List.append_nil, List.replicate, Nat.reduceAdd, Nat.reduceSub, Bool.true_and, Bool.and_true, Bool.false_and, Bool.and_false, Bool.true_or, Bool.or_true, Bool.false_or, Bool.or_false, Bool.not_true, Bool.not_false, if_true, if_false, Bool.false_eq_true, reduceIte, ixw1, g2, ixL0, ixL1, el_s, list_tup, dict_s, mk_t, hp, e4, mk_optT, e5]
        · simp (disch := (first | trivial | omega | (simp only [true_and, and_true, lim, List.length_cons, List.length_nil, List.length_map, List.length_append] <;> first | trivial | omega) | assumption)) only [asOwn, asOwnL, runB, evSs, evS, evE, evEs, evB, evIt, isV, isNo, bind_ok, bind_ex, guard_t, env0, mk_lst, mk_dct, mk_tup, mk_frz, mk_int, mk_bl, mk_str, mk_non, el_lst, el_dct, el_tup, el_frz, el_int, el_bl, el_str, el_non, new_own, new_top, new_pl, io_own, io_top, io_pl, asB_bl, asI_int, ent_top, ent_pl, fr_own, fr_top, fr_pl, pu_int, pu_bl, pu_str, pu_non, pu_tup, pu_lst, pu_nil, pu_cons, pe_lst', no_nil, no_cons, al_nil, al_cons, od_rt, od_nx, ofO_some, d_add, d_sub, d_mul, d_div, d_mod, d_cat, d_catT, c_eqI, c_neI, c_lt, c_le, c_gt, c_ge, List.map_cons, List.map_nil, List.length_cons, List.length_nil, List.getElem?_cons_zero, List.getElem?_cons_succ, List.set_cons_zero, List.set_cons_succ, List.cons_append, List.nil_append, List.append_nil, List.replicate, Nat.reduceAdd, Nat.reduceSub, Bool.true_and, Bool.and_true, Bool.false_and, Bool.and_false, Bool.true_or, Bool.or_true, Bool.false_or, Bool.or_false, Bool.not_true, Bool.not_false, if_true, if_false, Bool.false_eq_true, reduceIte, ixL0, eix]
          exact rfl
      refine gv_rt ?_ ⟨_, rfl, rfl⟩
      simp (disch := (first | trivial | omega | (simp only [true_and, and_true, lim, List.length_cons, List.length_nil, List.length_map, List.length_append] <;> first | trivial | omega) | assumption)) only [asOwn, asOwnL, runB, evSs, evS, evE, evEs, evB, evIt, isV, isNo, bind_ok, bind_ex, guard_t, env0, mk_lst, mk_dct, mk_tup, mk_frz, mk_int, mk_bl, mk_str, mk_non, el_lst, el_dct, el_tup, el_frz, el_int, el_bl, el_str, el_non, new_own, new_top, new_pl, io_own, io_top, io_pl, asB_bl, asI_int, ent_top, ent_pl, fr_own, fr_top, fr_pl, pu_int, pu_bl, pu_str, pu_non, pu_tup, pu_lst, pu_nil, pu_cons, pe_lst', no_nil, no_cons, al_nil, al_cons, od_rt, od_nx, ofO_some, d_add, d_sub, d_mul, d_div, d_mod, d_cat, d_catT, c_eqI, c_neI, c_lt, c_le, c_gt, c_ge, List.map_cons, List.map_nil, List.length_cons, List.length_nil, List.getElem?_cons_zero, List.getElem?_cons_succ, List.set_cons_zero, List.set_cons_succ, List.cons_append, List.nil_append, List.append_nil, List.replicate, Nat.reduceAdd, Nat.reduceSub, Bool.true_and, Bool.and_true, Bool.false_and, Bool.and_false, Bool.true_or, Bool.or_true, Bool.false_or, Bool.or_false, Bool.not_true, Bool.not_false, if_true, if_false, Bool.false_eq_true, reduceIte]
    · rw [if_neg hr] at sh
      have hr : (fillI w (dictI l.2) br 0 w.parts l.1).isSome = false := by simpa using hr
      rw [hr] at e5
      rw [sh]
      refine gv_step (if_f (k := .pl true) ?_ seq_nil) (gv_rt ?_ ⟨_, rfl, rfl⟩)
      · simp (disch := (first | trivial | omega | (simp only [true_and, and_true, lim, List.length_cons, List.length_nil, List.length_map, List.length_append] <;> first | trivial | omega) | assumption)) only [asOwn, asOwnL, runB, evSs, evS, evE, evEs, evB, evIt, isV, isNo, bind_ok, bind_ex, guard_t, env0, mk_lst, mk_dct, mk_tup, mk_frz, mk_int, mk_bl, mk_str, mk_non, el_lst, el_dct, el_tup, el_frz, el_int, el_bl, el_str, el_non, new_own, new_top, new_pl, io_own, io_top, io_pl, asB_bl, asI_int, ent_top, ent_pl, fr_own, fr_top, fr_pl, pu_int, pu_bl, pu_str, pu_non, pu_tup, pu_lst, pu_nil, pu_cons, pe_lst', no_nil, no_cons, al_nil, al_cons, od_rt, od_nx, ofO_some, d_add, d_sub, d_mul, d_div, d_mod, d_cat, d_catT, c_eqI, c_neI, c_lt, c_le, c_gt, c_ge, List.map_cons, List.map_nil, List.length_cons, List.length_nil, List.getElem?_cons_zero, List.getElem?_cons_succ, List.set_cons_zero, List.set_cons_succ, List.cons_append, List.nil_append, List.append_nil, List.replicate, Nat.reduceAdd, Nat.reduceSub, Bool.true_and, Bool.and_true, Bool.false_and, Bool.and_false, Bool.true_or, Bool.or_true, Bool.false_or, Bool.or_false, Bool.not_true, Bool.not_false, if_true, if_false, Bool.false_eq_true, reduceIte, ixw1, g2, ixL0, ixL1, el_s, list_tup, dict_s, mk_t, hp, e4, mk_optT, e5]
      · simp (disch := (first | trivial | omega | (simp only [true_and, and_true, lim, List.length_cons, List.length_nil, List.length_map, List.length_append] <;> first | trivial | omega) | assumption)) only [asOwn, asOwnL, runB, evSs, evS, evE, evEs, evB, evIt, isV, isNo, bind_ok, bind_ex, guard_t, env0, mk_lst, mk_dct, mk_tup, mk_frz, mk_int, mk_bl, mk_str, mk_non, el_lst, el_dct, el_tup, el_frz, el_int, el_bl, el_str, el_non, new_own, new_top, new_pl, io_own, io_top, io_pl, asB_bl, asI_int, ent_top, ent_pl, fr_own, fr_top, fr_pl, pu_int, pu_bl, pu_str, pu_non, pu_tup, pu_lst, pu_nil, pu_cons, pe_lst', no_nil, no_cons, al_nil, al_cons, od_rt, od_nx, ofO_some, d_add, d_sub, d_mul, d_div, d_mod, d_cat, d_catT, c_eqI, c_neI, c_lt, c_le, c_gt, c_ge, List.map_cons, List.map_nil, List.length_cons, List.length_nil, List.getElem?_cons_zero, List.getElem?_cons_succ, List.set_cons_zero, List.set_cons_succ, List.cons_append, List.nil_append, List.append_nil, List.replicate, Nat.reduceAdd, Nat.reduceSub, Bool.true_and, Bool.and_true, Bool.false_and, Bool.and_false, Bool.true_or, Bool.or_true, Bool.false_or, Bool.or_false, Bool.not_true, Bool.not_false, if_true, if_false, Bool.false_eq_true, reduceIte]
  · obtain ⟨j, rfl⟩ : ∃ j, line = w.inp + j := ⟨line - w.inp, by omega⟩
    have g1 : decide ((w.inp : Int) ≤ ((w.inp + j : Nat) : Int)) = true := decide_eq_true (by omega)
    have g2 : decide (((w.inp + j : Nat) : Int) < w.inp) = false := decide_eq_false (by omega)
    refine gv_P (for_r1P (n := rn) (kd := .pl true) (fun i ρ => ∃ s5 s6, ρ = [some (.old, w.D), some (.old, LkD l), some (.old, bD br), some (.old, .int (w.inp + j : Nat)), some (.own, .lst (((rangeI (i : Int)).filter fun d => okI w (dictI l.2) j d && (fillI w (putI (dictI l.2) ((w.inp + j : Nat) : Int) d) br 0 w.parts l.1).isSome).map D.int)), s5, s6]) (by simp (disch := (first | trivial | omega | (simp only [true_and, and_true, lim, List.length_cons, List.length_nil, List.length_map, List.length_append] <;> first | trivial | omega) | assumption)) only [asOwn, asOwnL, runB, evSs, evS, evE, evEs, evB, evIt, isV, isNo, bind_ok, bind_ex, guard_t, env0, mk_lst, mk_dct, mk_tup, mk_frz, mk_int, mk_bl, mk_str, mk_non, el_lst, el_dct, el_tup, el_frz, el_int, el_bl, el_str, el_non, new_own, new_top, new_pl, io_own, io_top, io_pl, asB_bl, asI_int, ent_top, ent_pl, fr_own, fr_top, fr_pl, pu_int, pu_bl, pu_str, pu_non, pu_tup, pu_lst, pu_nil, pu_cons, pe_lst', no_nil, no_cons, al_nil, al_cons, od_rt, od_nx, ofO_some, d_add, d_sub, d_mul, d_div, d_mod, d_cat, d_catT, c_eqI, c_neI, c_lt, c_le, c_gt, c_ge, List.map_cons, List.map_nil, List.length_cons, List.length_nil, List.getElem?_cons_zero, List.getElem?_cons_succ, List.set_cons_zero, List.set_cons_succ, List.cons_append, List.nil_append, List.append_nil, List.replicate, Nat.reduceAdd, Nat.reduceSub, Bool.true_and, Bool.and_true, Bool.false_and, Bool.and_false, Bool.true_or, Bool.or_true, Bool.false_or, Bool.or_false, Bool.not_true, Bool.not_false, if_true, if_false, Bool.false_eq_true, reduceIte, ixw0, hrn]) (by omega) ⟨none, none, rfl⟩ ?_) ?_
    · rintro i ρ hi ⟨s5, s6, rfl⟩
      rw [range_succ_int, List.filter_append]
      have hlen : (((rangeI (i : Int)).filter fun d => okI w (dictI l.2) j d && (fillI w (putI (dictI l.2) ((w.inp + j : Nat) : Int) d) br 0 w.parts l.1).isSome).map D.int).length < 1000000 := by
        rw [List.length_map]
        have := List.length_filter_le (fun d => okI w (dictI l.2) j d && (fillI w (putI (dictI l.2) ((w.inp + j : Nat) : Int) d) br 0 w.parts l.1).isSome) (rangeI (i : Int))
        have h2 : (rangeI (i : Int)).length = i := by unfold rangeI; simp
        omega
      rw [bindT_1, bind_ok, setE_int]
      have e0 := pe_t (dictI l.2)
      have first : evS S (.set 6 true (.bl .dict (.cons (.ix (.v 1) (.ki 1)) .nil))) ([some (.old, w.D), some (.old, LkD l), some (.old, bD br), some (.old, .int (w.inp + j : Nat)), some (.own, .lst (((rangeI (i : Int)).filter fun d => okI w (dictI l.2) j d && (fillI w (putI (dictI l.2) ((w.inp + j : Nat) : Int) d) br 0 w.parts l.1).isSome).map D.int)), s5, s6].set 5 (some (.new, .int i))) =
          .ok (.nx [some (.old, w.D), some (.old, LkD l), some (.old, bD br), some (.old, .int (w.inp + j : Nat)), some (.own, .lst (((rangeI (i : Int)).filter fun d => okI w (dictI l.2) j d && (fillI w (putI (dictI l.2) ((w.inp + j : Nat) : Int) d) br 0 w.parts l.1).isSome).map D.int)), some (.new, .int i), some (.own, tD (dictI l.2))]) := by
        simp (disch := (first | trivial | omega | (simp only [true_and, and_true, lim, List.length_cons, List.length_nil, List.length_map, List.length_append] <;> first | trivial | omega) | assumption)) only [asOwn, asOwnL, runB, evSs, evS, evE, evEs, evB, evIt, isV, isNo, bind_ok, bind_ex, guard_t, env0, mk_lst, mk_dct, mk_tup, mk_frz, mk_int, mk_bl, mk_str, mk_non, el_lst, el_dct, el_tup, el_frz, el_int, el_bl, el_str, el_non, new_own, new_top, new_pl, io_own, io_top, io_pl, asB_bl, asI_int, ent_top, ent_pl, fr_own, fr_top, fr_pl, pu_int, pu_bl, pu_str, pu_non, pu_tup, pu_lst, pu_nil, pu_cons, pe_lst', no_nil, no_cons, al_nil, al_cons, od_rt, od_nx, ofO_some, d_add, d_sub, d_mul, d_div, d_mod, d_cat, d_catT, c_eqI, c_neI, c_lt, c_le, c_gt, c_ge, List.map_cons, List.map_nil, List.length_cons, List.length_nil, List.getElem?_cons_zero, List.getElem?_cons_succ, List.set_cons_zero, List.set_cons_succ, List.cons_append, List.nil_append, List.append_nil, List.replicate, Nat.reduceAdd, Nat.reduceSub, Bool.true_and, Bool.and_true, Bool.false_and, Bool.and_false, Bool.true_or, Bool.or_true, Bool.false_or, Bool.or_false, Bool.not_true, Bool.not_false, if_true, if_false, Bool.false_eq_true, reduceIte, ixL1, el_s, dict_s, mk_t, e0]
      generalize hA : (rangeI (i : Int)).filter (fun d => okI w (dictI l.2) j d && (fillI w (putI (dictI l.2) ((w.inp + j : Nat) : Int) d) br 0 w.parts l.1).isSome) = A at first hlen
      have hlen2 : A.length < 1000000 := by rw [List.length_map] at hlen; exact hlen
      by_cases hok : okI w (dictI l.2) j (i : Int) = true
      · have q1 := of_decide_eq_true hok
        have hs := sub_t (t := dictI l.2) (by
          have hdl : (dictI l.2).length ≤ l.2.length := by
            have key : ∀ (sn acc : List (Int × Int)), (sn.foldl (fun acc p => putI acc p.1 p.2) acc).length ≤ acc.length + sn.length := fun sn => by
              induction sn with
              | nil => intro acc; exact Nat.le_refl _
              | cons p sn ih => intro acc; have := ih (putI acc p.1 p.2); have h2 := putI_len acc p.1 p.2; simp only [List.foldl_cons, List.length_cons]; omega
            have := key l.2 []
            simpa [dictI] using this
          have := seen_len i6 p10 hl.2.2 (by omega)
          rcases this with q | q
          · omega
          · have hq := congrArg List.length q
            rw [List.length_nil] at hq
            omega) ((w.inp + j : Nat) : Int) (i : Int)
        have e4 := h4 (putI (dictI l.2) ((w.inp + j : Nat) : Int) i)
        have e5 := isN_opt (fillI w (putI (dictI l.2) ((w.inp + j : Nat) : Int) i) br 0 w.parts l.1)
        by_cases hr : (fillI w (putI (dictI l.2) ((w.inp + j : Nat) : Int) i) br 0 w.parts l.1).isSome = true
        · rw [hr] at e5
          rw [List.filter_cons_of_pos (by rw [hok, hr]; rfl), List.filter_nil]
          refine ⟨_, seq_step first (seq_last (if_t (k := .pl true) ?_ ?_)), some (.new, .int i), some (.own, tD (putI (dictI l.2) ((w.inp + j : Nat) : Int) i)), rfl⟩
          · simp (disch := (first | trivial | omega | (simp only [true_and, and_true, lim, List.length_cons, List.length_nil, List.length_map, List.length_append] <;> first | trivial | omega) | assumption)) only [asOwn, asOwnL, runB, evSs, evS, evE, evEs, evB, evIt, isV, isNo, bind_ok, bind_ex, guard_t, env0, mk_lst, mk_dct, mk_tup, mk_frz, mk_int, mk_bl, mk_str, mk_non, el_lst, el_dct, el_tup, el_frz, el_int, el_bl, el_str, el_non, new_own, new_top, new_pl, io_own, io_top, io_pl, asB_bl, asI_int, ent_top, ent_pl, fr_own, fr_top, fr_pl, pu_int, pu_bl, pu_str, pu_non, pu_tup, pu_lst, pu_nil, pu_cons, pe_lst', no_nil, no_cons, al_nil, al_cons, od_rt, od_nx, ofO_some, d_add, d_sub, d_mul, d_div, d_mod, d_cat, d_catT, c_eqI, c_neI, c_lt, c_le, c_gt, c_ge, List.map_cons, List.map_nil, List.length_cons, List.length_nil, List.getElem?_cons_zero, List.getElem?_cons_succ, List.set_cons_zero, List.set_cons_succ, List.cons_append, List.nil_append, List.append_nil, List.replicate, Nat.reduceAdd, Nat.reduceSub, Bool.true_and, Bool.and_true, Bool.false_and, Bool.and_false, Bool.true_or, Bool.or_true, Bool.false_or, Bool.or_false, Bool.not_true, Bool.not_false, if_true, if_false, Bool.false_eq_true, reduceIte, ixw1, g1, asD_t, get_t, q1, eq_self, decide_true]
          apply seq_step
          · simp (disch := (first | trivial | omega | (simp only [true_and, and_true, lim, List.length_cons, List.length_nil, List.length_map, List.length_append] <;> first | trivial | omega) | assumption)) only [asOwn, asOwnL, runB, evSs, evS, evE, evEs, evB, evIt, isV, isNo, bind_ok, bind_ex, guard_t, env0, mk_lst, mk_dct, mk_tup, mk_frz, mk_int, mk_bl, mk_str, mk_non, el_lst, el_dct, el_tup, el_frz, el_int, el_bl, el_str, el_non, new_own, new_top, new_pl, io_own, io_top, io_pl, asB_bl, asI_int, ent_top, ent_pl, fr_own, fr_top, fr_pl, pu_int, pu_bl, pu_str, pu_non, pu_tup, pu_lst, pu_nil, pu_cons, pe_lst', no_nil, no_cons, al_nil, al_cons, od_rt, od_nx, ofO_some, d_add, d_sub, d_mul, d_div, d_mod, d_cat, d_catT, c_eqI, c_neI, c_lt, c_le, c_gt, c_ge, List.map_cons, List.map_nil, List.length_cons, List.length_nil, List.getElem?_cons_zero, List.getElem?_cons_succ, List.set_cons_zero, List.set_cons_succ, List.cons_append, List.nil_append, List.append_nil, List.replicate, Nat.reduceAdd, Nat.reduceSub, Bool.true_and, Bool.and_true, Bool.false_and, Bool.and_false, Bool.true_or, Bool.or_true, Bool.false_or, Bool.or_false, Bool.not_true, Bool.not_false, if_true, if_false, Bool.false_eq_true, reduceIte, hs]
            exact rfl
          refine seq_last (if_t (k := .pl true) ?_ (seq_last ?_))
          · simp (disch := (first | trivial | omega | (simp only [true_and, and_true, lim, List.length_cons, List.length_nil, List.length_map, List.length_append] <;> first | trivial | omega) | assumption)) only [asOwn, asOwnL, runB, evSs, evS, evE, evEs, evB, evIt, isV, isNo, bind_ok, bind_ex, guard_t, env0, mk_lst, mk_dct, mk_tup, mk_frz, mk_int, mk_bl, mk_str, mk_non, el_lst, el_dct, el_tup, el_frz, el_int, el_bl, el_str, el_non, new_own, new_top, new_pl, io_own, io_top, io_pl, asB_bl, asI_int, ent_top, ent_pl, fr_own, fr_top, fr_pl, pu_int, pu_bl, pu_str, pu_non, pu_tup, pu_lst, pu_nil, pu_cons, pe_lst', no_nil, no_cons, al_nil, al_cons, od_rt, od_nx, ofO_some, d_add, d_sub, d_mul, d_div, d_mod, d_cat, d_catT, c_eqI, c_neI, c_lt, c_le, c_gt, c_ge, List.map_cons, List.map_nil, List.length_cons, List.length_nil, List.getElem?_cons_zero, List.getElem?_cons_succ, List.set_cons_zero, List.set_cons_succ, List.cons_append, List.nil_append, List.append_nil, List.replicate, Nat.reduceAdd, Nat.reduceSub, Bool.true_and, Bool.and_true, Bool.false_and, Bool.and_false, Bool.true_or, Bool.or_true, Bool.false_or, Bool.or_false, Bool.not_true, Bool.not_false, if_true, if_false, Bool.false_eq_true, reduceIte, ixL0, list_tup, hp, e4, mk_optT, e5]
          · simp (disch := (first | trivial | omega | (simp only [true_and, and_true, lim, List.length_cons, List.length_nil, List.length_map, List.length_append] <;> first | trivial | omega) | assumption)) only [asOwn, asOwnL, runB, evSs, evS, evE, evEs, evB, evIt, isV, isNo, bind_ok, bind_ex, guard_t, env0, mk_lst, mk_dct, mk_tup, mk_frz, mk_int, mk_bl, mk_str, mk_non, el_lst, el_dct, el_tup, el_frz, el_int, el_bl, el_str, el_non, new_own, new_top, new_pl, io_own, io_top, io_pl, asB_bl, asI_int, ent_top, ent_pl, fr_own, fr_top, fr_pl, pu_int, pu_bl, pu_str, pu_non, pu_tup, pu_lst, pu_nil, pu_cons, pe_lst', no_nil, no_cons, al_nil, al_cons, od_rt, od_nx, ofO_some, d_add, d_sub, d_mul, d_div, d_mod, d_cat, d_catT, c_eqI, c_neI, c_lt, c_le, c_gt, c_ge, List.map_cons, List.map_nil, List.length_cons, List.length_nil, List.getElem?_cons_zero, List.getElem?_cons_succ, List.set_cons_zero, List.set_cons_succ, List.cons_append, List.nil_append, List.append_nil, List.replicate, Nat.reduceAdd, Nat.reduceSub, Bool.true_and, Bool.and_true, Bool.false_and, Bool.and_false, Bool.true_or, Bool.or_true, Bool.false_or, Bool.or_false, Bool.not_true, Bool.not_false, if_true, if_false, Bool.false_eq_true, reduceIte, List.map_append]
        · have hr : (fillI w (putI (dictI l.2) ((w.inp + j : Nat) : Int) i) br 0 w.parts l.1).isSome = false := by simpa using hr
          rw [hr] at e5
          rw [List.filter_cons_of_neg (by rw [hok, hr]; decide), List.filter_nil, List.append_nil]
          refine ⟨_, seq_step first (seq_last (if_t (k := .pl true) ?_ (seq_step ?_ (seq_last (if_f (k := .pl true) ?_ seq_nil))))), some (.new, .int i), some (.own, tD (putI (dictI l.2) ((w.inp + j : Nat) : Int) i)), rfl⟩
          · simp (disch := (first | trivial | omega | (simp only [true_and, and_true, lim, List.length_cons, List.length_nil, List.length_map, List.length_append] <;> first | trivial | omega) | assumption)) only [asOwn, asOwnL, runB, evSs, evS, evE, evEs, evB, evIt, isV, isNo, bind_ok, bind_ex, guard_t, env0, mk_lst, mk_dct, mk_tup, mk_frz, mk_int, mk_bl, mk_str, mk_non, el_lst, el_dct, el_tup, el_frz, el_int, el_bl, el_str, el_non, new_own, new_top, new_pl, io_own, io_top, io_pl, asB_bl, asI_int, ent_top, ent_pl, fr_own, fr_top, fr_pl, pu_int, pu_bl, pu_str, pu_non, pu_tup, pu_lst, pu_nil, pu_cons, pe_lst', no_nil, no_cons, al_nil, al_cons, od_rt, od_nx, ofO_some, d_add, d_sub, d_mul, d_div, d_mod, d_cat, d_catT, c_eqI, c_neI, c_lt, c_le, c_gt, c_ge, List.map_cons, List.map_nil, List.length_cons, List.length_nil, List.getElem?_cons_zero, List.getElem?_cons_succ, List.set_cons_zero, List.set_cons_succ, List.cons_append, List.nil_append, List.append_nil, List.replicate, Nat.reduceAdd, Nat.reduceSub, Bool.true_and, Bool.and_true, Bool.false_and, Bool.and_false, Bool.true_or, Bool.or_true, Bool.false_or, Bool.or_false, Bool.not_true, Bool.not_false, if_true, if_false, Bool.false_eq_true, reduceIte, ixw1, g1, asD_t, get_t, q1, eq_self, decide_true]
          · simp (disch := (first | trivial | omega | (simp only [true_and, and_true, lim, List.length_cons, List.length_nil, List.length_map, List.length_append] <;> first | trivial | omega) | assumption)) only [asOwn, asOwnL, runB, evSs, evS, evE, evEs, evB, evIt, isV, isNo, bind_ok, bind_ex, guard_t, env0, mk_lst, mk_dct, mk_tup, mk_frz, mk_int, mk_bl, mk_str, mk_non, el_lst, el_dct, el_tup, el_frz, el_int, el_bl, el_str, el_non, new_own, new_top, new_pl, io_own, io_top, io_pl, asB_bl, asI_int, ent_top, ent_pl, fr_own, fr_top, fr_pl, pu_int, pu_bl, pu_str, pu_non, pu_tup, pu_lst, pu_nil, pu_cons, pe_lst', no_nil, no_cons, al_nil, al_cons, od_rt, od_nx, ofO_some, d_add, d_sub, d_mul, d_div, d_mod, d_cat, d_catT, c_eqI, c_neI, c_lt, c_le, c_gt, c_ge, List.map_cons, List.map_nil, List.length_cons, List.length_nil, List.getElem?_cons_zero, List.getElem?_cons_succ, List.set_cons_zero, List.set_cons_succ, List.cons_append, List.nil_append, List.append_nil, List.replicate, Nat.reduceAdd, Nat.reduceSub, Bool.true_and, Bool.and_true, Bool.false_and, Bool.and_false, Bool.true_or, Bool.or_true, Bool.false_or, Bool.or_false, Bool.not_true, Bool.not_false, if_true, if_false, Bool.false_eq_true, reduceIte, hs]
          · simp (disch := (first | trivial | omega | (simp only [true_and, and_true, lim, List.length_cons, List.length_nil, List.length_map, List.length_append] <;> first | trivial | omega) | assumption)) only [asOwn, asOwnL, runB, evSs, evS, evE, evEs, evB, evIt, isV, isNo, bind_ok, bind_ex, guard_t, env0, mk_lst, mk_dct, mk_tup, mk_frz, mk_int, mk_bl, mk_str, mk_non, el_lst, el_dct, el_tup, el_frz, el_int, el_bl, el_str, el_non, new_own, new_top, new_pl, io_own, io_top, io_pl, asB_bl, asI_int, ent_top, ent_pl, fr_own, fr_top, fr_pl, pu_int, pu_bl, pu_str, pu_non, pu_tup, pu_lst, pu_nil, pu_cons, pe_lst', no_nil, no_cons, al_nil, al_cons, od_rt, od_nx, ofO_some, d_add, d_sub, d_mul, d_div, d_mod, d_cat, d_catT, c_eqI, c_neI, c_lt, c_le, c_gt, c_ge, List.map_cons, List.map_nil, List.length_cons, List.length_nil, List.getElem?_cons_zero, List.getElem?_cons_succ, List.set_cons_zero, List.set_cons_succ, List.cons_append, List.nil_append, List.append_nil, List.replicate, Nat.reduceAdd, Nat.reduceSub, Bool.true_and, Bool.and_true, Bool.false_and, Bool.and_false, Bool.true_or, Bool.or_true, Bool.false_or, Bool.or_false, Bool.not_true, Bool.not_false, if_true, if_false, Bool.false_eq_true, reduceIte, ixL0, list_tup, hp, e4, mk_optT, e5]
      · have hok : okI w (dictI l.2) j (i : Int) = false := by simpa using hok
        have q1 : ¬ (lookI (dictI l.2) ((w.inp + j : Nat) : Int)).getD i = i := of_decide_eq_false hok
        rw [List.filter_cons_of_neg (by rw [hok]; simp), List.filter_nil, List.append_nil]
        refine ⟨_, seq_step first (seq_last (if_f (k := .pl true) ?_ seq_nil)), some (.new, .int i), some (.own, tD (dictI l.2)), rfl⟩
        simp (disch := (first | trivial | omega | (simp only [true_and, and_true, lim, List.length_cons, List.length_nil, List.length_map, List.length_append] <;> first | trivial | omega) | assumption)) only [asOwn, asOwnL, runB, evSs, evS, evE, evEs, evB, evIt, isV, isNo, bind_ok, bind_ex, guard_t, env0, mk_lst, mk_dct, mk_tup, mk_frz, mk_int, mk_bl, mk_str, mk_non, el_lst, el_dct, el_tup, el_frz, el_int, el_bl, el_str, el_non, new_own, new_top, new_pl, io_own, io_top, io_pl, asB_bl, asI_int, ent_top, ent_pl, fr_own, fr_top, fr_pl, pu_int, pu_bl, pu_str, pu_non, pu_tup, pu_lst, pu_nil, pu_cons, pe_lst', no_nil, no_cons, al_nil, al_cons, od_rt, od_nx, ofO_some, d_add, d_sub, d_mul, d_div, d_mod, d_cat, d_catT, c_eqI, c_neI, c_lt, c_le, c_gt, c_ge, List.map_cons, List.map_nil, List.length_cons, List.length_nil, List.getElem?_cons_zero, List.getElem?_cons_succ, List.set_cons_zero, List.set_cons_succ, List.cons_append, List.nil_append, List.append_nil, List.replicate, Nat.reduceAdd, Nat.reduceSub, Bool.true_and, Bool.and_true, Bool.false_and, Bool.and_false, Bool.true_or, Bool.or_true, Bool.false_or, Bool.or_false, Bool.not_true, Bool.not_false, if_true, if_false, Bool.false_eq_true, reduceIte, ixw1, g1, asD_t, get_t, q1, decide_false]
    rintro ρ ⟨s5, s6, rfl⟩
    rw [hrn, ← shown_line hw hl (by omega)]
    refine gv_step (if_f (k := .pl true) ?_ seq_nil) (gv_rt ?_ ⟨_, rfl, rfl⟩)
    · simp (disch := (first | trivial | omega | (simp only [true_and, and_true, lim, List.length_cons, List.length_nil, List.length_map, List.length_append] <;> first | trivial | omega) | assumption)) only [asOwn, asOwnL, runB, evSs, evS, evE, evEs, evB, evIt, isV, isNo, bind_ok, bind_ex, guard_t, env0, mk_lst, mk_dct, mk_tup, mk_frz, mk_int, mk_bl, mk_str, mk_non, el_lst, el_dct, el_tup, el_frz, el_int, el_bl, el_str, el_non, new_own, new_top, new_pl, io_own, io_top, io_pl, asB_bl, asI_int, ent_top, ent_pl, fr_own, fr_top, fr_pl, pu_int, pu_bl, pu_str, pu_non, pu_tup, pu_lst, pu_nil, pu_cons, pe_lst', no_nil, no_cons, al_nil, al_cons, od_rt, od_nx, ofO_some, d_add, d_sub, d_mul, d_div, d_mod, d_cat, d_catT, c_eqI, c_neI, c_lt, c_le, c_gt, c_ge, List.map_cons, List.map_nil, List.length_cons, List.length_nil, List.getElem?_cons_zero, List.getElem?_cons_succ, List.set_cons_zero, List.set_cons_succ, List.cons_append, List.nil_append, List.append_nil, List.replicate, Nat.reduceAdd, Nat.reduceSub, Bool.true_and, Bool.and_true, Bool.false_and, Bool.and_false, Bool.true_or, Bool.or_true, Bool.false_or, Bool.or_false, Bool.not_true, Bool.not_false, if_true, if_false, Bool.false_eq_true, reduceIte, ixw1, g2]
    · simp (disch := (first | trivial | omega | (simp only [true_and, and_true, lim, List.length_cons, List.length_nil, List.length_map, List.length_append] <;> first | trivial | omega) | assumption)) only [asOwn, asOwnL, runB, evSs, evS, evE, evEs, evB, evIt, isV, isNo, bind_ok, bind_ex, guard_t, env0, mk_lst, mk_dct, mk_tup, mk_frz, mk_int, mk_bl, mk_str, mk_non, el_lst, el_dct, el_tup, el_frz, el_int, el_bl, el_str, el_non, new_own, new_top, new_pl, io_own, io_top, io_pl, asB_bl, asI_int, ent_top, ent_pl, fr_own, fr_top, fr_pl, pu_int, pu_bl, pu_str, pu_non, pu_tup, pu_lst, pu_nil, pu_cons, pe_lst', no_nil, no_cons, al_nil, al_cons, od_rt, od_nx, ofO_some, d_add, d_sub, d_mul, d_div, d_mod, d_cat, d_catT, c_eqI, c_neI, c_lt, c_le, c_gt, c_ge, List.map_cons, List.map_nil, List.length_cons, List.length_nil, List.getElem?_cons_zero, List.getElem?_cons_succ, List.set_cons_zero, List.set_cons_succ, List.cons_append, List.nil_append, List.append_nil, List.replicate, Nat.reduceAdd, Nat.reduceSub, Bool.true_and, Bool.and_true, Bool.false_and, Bool.and_false, Bool.true_or, Bool.or_true, Bool.false_or, Bool.or_false, Bool.not_true, Bool.not_false, if_true, if_false, Bool.false_eq_true, reduceIte]
/-! ### the law's digits -/
def ldigitsF (al : Nat) : Fn := ⟨4, 6, (.cons (.set 4 false (.call al (.cons (.v 0) (.cons (.ix (.v 1) (.ki 0)) (.cons (.bl .dict (.cons (.ix (.v 1) (.ki 1)) .nil)) (.cons (.v 2) .nil)))))) (.cons (.ret (.sst (.lc (.ix (.v 5) (.v 3)) [5] (.sq (.v 4)) .no))) .nil))⟩
theorem intsD_map : ∀ ns : List Int, intsD (ns.map D.int) = some ns
  | [] => rfl
  | n :: ns => by
    show (intsD (ns.map D.int)).map (n :: ·) = _
    rw [intsD_map ns]
    rfl
theorem sst_ev {S : Sig} {ρ : PyV.Env} {e : IE} {k : Kd} {ns : List Int} (h : evE S e ρ = .ok (k, .lst (ns.map D.int))) (h1 : ns.length < 4000) (h2 : (sortU ns).length < 64) : evE S (.sst e) ρ = .ok (.top true, .lst ((sortU ns).map D.int)) := by
  rw [evE, h, bind_ok]
  show (dSstL (ns.map D.int)).bind _ = _
  unfold dSstL
  rw [intsD_map]
  show (guard' (ns.length < 4000 ∧ (sortU ns).length < 64) _).bind _ = _
  rw [guard_t ⟨h1, h2⟩]
  rfl
theorem sortU_small {ring : Int} (h5 : ring ≤ 5) {ns : List Int} (h : ∀ x ∈ ns, 0 ≤ x ∧ x < ring) : (sortU ns).length ≤ 5 := by
  have : (sortU ns).length ≤ (rangeI ring).length := nodup_le ((sortU_lt ns).imp fun h => Int.ne_of_lt h) fun z hz => mem_rangeI.mpr (h z (mem_sortU.mp hz))
  have h2 : (rangeI ring).length = ring.toNat := by unfold rangeI; simp
  omega
theorem rows_len {w : Wk} (h5 : w.ring ≤ 5) (h7 : w.parts.length ≤ 7) {br : List Int} {l : Lk} : (rowsI w br l).length ≤ 5 ^ 7 := by
  have := all_len h5 (dictI l.2) br w.parts 0 [l.1]
  unfold rowsI
  simp at this
  exact Nat.le_trans this (Nat.pow_le_pow_right (by decide) h7)
theorem run_ldigits (S : Sig) (al : Nat) {w : Wk} (hw : w.ok) {l : Lk} (hl : LkOk w l) {br : List Int} {line : Nat} (hln : line < w.inp + w.parts.length) (hrl : (rowsI w br l).length < 4000)
    (h : S.call al [w.D, .tup (l.1.map D.int), tD (dictI l.2), bD br] = .ok (.lst ((rowsI w br l).map rD))) : runB S (ldigitsF al) [w.D, LkD l, bD br, .int line] = .ok (.lst ((shownI w br l line).map D.int)) := by
  have r5 := hw.r5
  unfold ldigitsF
  refine run_rt ?_
  (apply seq_step; focus (simp (disch := (first | trivial | omega | (simp only [true_and, and_true, lim, List.length_cons, List.length_nil, List.length_map, List.length_append] <;> first | trivial | omega) | assumption)) only [asOwn, asOwnL, runB, evSs, evS, evE, evEs, evB, evIt, isV, isNo, bind_ok, bind_ex, guard_t, env0, mk_lst, mk_dct, mk_tup, mk_frz, mk_int, mk_bl, mk_str, mk_non, el_lst, el_dct, el_tup, el_frz, el_int, el_bl, el_str, el_non, new_own, new_top, new_pl, io_own, io_top, io_pl, asB_bl, asI_int, ent_top, ent_pl, fr_own, fr_top, fr_pl, pu_int, pu_bl, pu_str, pu_non, pu_tup, pu_lst, pu_nil, pu_cons, pe_lst', no_nil, no_cons, al_nil, al_cons, od_rt, od_nx, ofO_some, d_add, d_sub, d_mul, d_div, d_mod, d_cat, d_catT, c_eqI, c_neI, c_lt, c_le, c_gt, c_ge, List.map_cons, List.map_nil, List.length_cons, List.length_nil, List.getElem?_cons_zero, List.getElem?_cons_succ, List.set_cons_zero, List.set_cons_succ, List.cons_append, List.nil_append, List.append_nil, List.replicate, Nat.reduceAdd, Nat.reduceSub, Bool.true_and, Bool.and_true, Bool.false_and, Bool.and_false, Bool.true_or, Bool.or_true, Bool.false_or, Bool.or_false, Bool.not_true, Bool.not_false, if_true, if_false, Bool.false_eq_true, reduceIte, ixL0, ixL1, el_s, dict_s, mk_t, h]; exact rfl))
  apply seq_rt
  have hrow : ∀ r ∈ rowsI w br l, r.length = w.inp + w.parts.length ∧ InR w.ring r := fun r hr => by
    have e := mem_rows.mp hr
    obtain ⟨x, hx, hxl⟩ := ext_pre e
    exact ⟨by rw [hx, List.length_append, hl.1, hxl], ext_in hw (fun i p hp => by rw [hl.1]; exact hw.at_ i p hp) hl.2.1 e⟩
  have e2 : evE S (.lc (.ix (.v 5) (.v 3)) [5] (.sq (.v 4)) .no) [some (.old, w.D), some (.old, LkD l), some (.old, bD br), some (.old, .int line), some (.new, .lst ((rowsI w br l).map rD)), none] = .ok (.top true, .lst (((rowsI w br l).map fun r => dig r line).map D.int)) := by
    rw [lc_sq (kd := .pl true) (x := .lst ((rowsI w br l).map rD)) (xs := (rowsI w br l).map rD) (rs := (rowsI w br l).map fun r => (.pl true, .int (dig r line))) (by simp (disch := (first | trivial | omega | (simp only [true_and, and_true, lim, List.length_cons, List.length_nil, List.length_map, List.length_append] <;> first | trivial | omega) | assumption)) only [asOwn, asOwnL, runB, evSs, evS, evE, evEs, evB, evIt, isV, isNo, bind_ok, bind_ex, guard_t, env0, mk_lst, mk_dct, mk_tup, mk_frz, mk_int, mk_bl, mk_str, mk_non, el_lst, el_dct, el_tup, el_frz, el_int, el_bl, el_str, el_non, new_own, new_top, new_pl, io_own, io_top, io_pl, asB_bl, asI_int, ent_top, ent_pl, fr_own, fr_top, fr_pl, pu_int, pu_bl, pu_str, pu_non, pu_tup, pu_lst, pu_nil, pu_cons, pe_lst', no_nil, no_cons, al_nil, al_cons, od_rt, od_nx, ofO_some, d_add, d_sub, d_mul, d_div, d_mod, d_cat, d_catT, c_eqI, c_neI, c_lt, c_le, c_gt, c_ge, List.map_cons, List.map_nil, List.length_cons, List.length_nil, List.getElem?_cons_zero, List.getElem?_cons_succ, List.set_cons_zero, List.set_cons_succ, List.cons_append, List.nil_append, List.append_nil, List.replicate, Nat.reduceAdd, Nat.reduceSub, Bool.true_and, Bool.and_true, Bool.false_and, Bool.and_false, Bool.true_or, Bool.or_true, Bool.false_or, Bool.or_false, Bool.not_true, Bool.not_false, if_true, if_false, Bool.false_eq_true, reduceIte]) rfl (by rw [List.length_map]; omega) rfl (noOwn_map _ _ fun _ _ => rfl) (compM_on fun r hr => by
      have hx : dIx (rD r) (.int line) = .ok (.int (dig r line)) := ix_ints (by have := (hrow r hr).1; omega)
      simp (disch := (first | trivial | omega | (simp only [true_and, and_true, lim, List.length_cons, List.length_nil, List.length_map, List.length_append] <;> first | trivial | omega) | assumption)) only [asOwn, asOwnL, runB, evSs, evS, evE, evEs, evB, evIt, isV, isNo, bind_ok, bind_ex, guard_t, env0, mk_lst, mk_dct, mk_tup, mk_frz, mk_int, mk_bl, mk_str, mk_non, el_lst, el_dct, el_tup, el_frz, el_int, el_bl, el_str, el_non, new_own, new_top, new_pl, io_own, io_top, io_pl, asB_bl, asI_int, ent_top, ent_pl, fr_own, fr_top, fr_pl, pu_int, pu_bl, pu_str, pu_non, pu_tup, pu_lst, pu_nil, pu_cons, pe_lst', no_nil, no_cons, al_nil, al_cons, od_rt, od_nx, ofO_some, d_add, d_sub, d_mul, d_div, d_mod, d_cat, d_catT, c_eqI, c_neI, c_lt, c_le, c_gt, c_ge, List.map_cons, List.map_nil, List.length_cons, List.length_nil, List.getElem?_cons_zero, List.getElem?_cons_succ, List.set_cons_zero, List.set_cons_succ, List.cons_append, List.nil_append, List.append_nil, List.replicate, Nat.reduceAdd, Nat.reduceSub, Bool.true_and, Bool.and_true, Bool.false_and, Bool.and_false, Bool.true_or, Bool.or_true, Bool.false_or, Bool.or_false, Bool.not_true, Bool.not_false, if_true, if_false, Bool.false_eq_true, reduceIte, new_pl, bindT_1, setE_rD, wipe_1, hx])]
    have e5 : allNew ((rowsI w br l).map fun r => ((Kd.pl true, D.int (dig r line)) : R)) = true := allNew_map _ _ fun _ _ => rfl
    rw [e5, List.map_map, List.map_map]
    rfl
  have e3 := sst_ev e2 (by rw [List.length_map]; exact hrl) (by
    have := sortU_small (ring := w.ring) (ns := (rowsI w br l).map fun r => dig r line) r5 (fun x hx => by
      obtain ⟨r, hr, rfl⟩ := List.mem_map.mp hx
      obtain ⟨g1, g2⟩ := hrow r hr
      exact dig_in g2 (by omega))
    omega)
  rw [evS, e3, bind_ok]
  rfl
end PyV
namespace PyV
open PySem L2
section
variable {S : Sig} {a b : IE} {es : IEs} {ρ : PyV.Env} {k : Kd} {r : M R}
theorem or_f (h : evE S a ρ = .ok (k, .bl false)) (g : evE S (.bop .Or (.cons b es)) ρ = r) : evE S (.bop .Or (.cons a (.cons b es))) ρ = r := by
  rw [evE] at g ⊢
  rw [evB, h]
  exact g
theorem or_t (h : evE S a ρ = .ok (k, .bl true)) : evE S (.bop .Or (.cons a (.cons b es))) ρ = .ok (.pl true, .bl true) := by
  rw [evE, evB, h]
  rfl
theorem or_1 (h : evE S a ρ = r) : evE S (.bop .Or (.cons a .nil)) ρ = r := by
  rw [evE, evB, h]
theorem and_f (h : evE S a ρ = .ok (k, .bl false)) : evE S (.bop .And (.cons a (.cons b es))) ρ = .ok (.pl true, .bl false) := by
  rw [evE, evB, h]
  rfl
theorem nt_ev {b : Bool} (h : evE S a ρ = .ok (k, .bl b)) : evE S (.nt a) ρ = .ok (.pl true, .bl (!b)) := by
  rw [evE, h]
  rfl
theorem cmp_ev {op : CmpOp} {k1 k2 : Kd} {x y d : D} (h : evE S a ρ = .ok (k1, x)) (g : evE S b ρ = .ok (k2, y)) (e : dCmp op x y = .ok d) : evE S (.cmp op a b) ρ = .ok (.pl true, d) := by
  rw [evE, h, bind_ok, g, bind_ok, e]
  rfl
theorem v_own {i : Nat} {d : D} (h : ρ[i]? = some (some (.own, d))) : evE S (.v i) ρ = .ok (.own, d) := by
  rw [evE, h]
theorem v_new {i : Nat} {d : D} (h : ρ[i]? = some (some (.new, d))) : evE S (.v i) ρ = .ok (.pl true, d) := by
  rw [evE, h]
theorem v_old {i : Nat} {d : D} (h : ρ[i]? = some (some (.old, d))) : evE S (.v i) ρ = .ok (.pl false, d) := by
  rw [evE, h]
theorem lnil_ev : evE S (.lst .nil) ρ = .ok (.top true, .lst []) := by
  rw [evE, evEs]
  rfl
end
theorem choices_le {n : Nat} {ring : Int} (h : ring ≤ n) (h1 : 1 ≤ n) (br : List Int) (k : Nat) (p : Pt) (ds : List Int) : (choicesI ring br k p ds).length ≤ n := by
  unfold choicesI rangeI
  split
  · rw [List.length_map, List.length_range]; omega
  · simpa using h1
theorem step_le {w : Wk} {n : Nat} (h : w.ring ≤ n) (h1 : 1 ≤ n) (t : List (Int × Int)) (br : List Int) (k : Nat) (p : Pt) : ∀ rows : List (List Int), (stepI w t br k p rows).length ≤ n * rows.length
  | [] => by simp [stepI]
  | r :: rows => by
    have ih := step_le h h1 t br k p rows
    have e : stepI w t br k p (r :: rows) = ((choicesI w.ring br k p r).filter (okI w t k)).map (fun d => r ++ [d]) ++ stepI w t br k p rows := by
      unfold stepI; rw [List.flatMap_cons]
    rw [e, List.length_append, List.length_map, List.length_cons]
    have g1 := List.length_filter_le (okI w t k) (choicesI w.ring br k p r)
    have g2 := choices_le h h1 br k p r
    rw [Nat.mul_add]
    omega
theorem all_le {w : Wk} {n : Nat} (h : w.ring ≤ n) (h1 : 1 ≤ n) (t : List (Int × Int)) (br : List Int) : ∀ (ps : List Pt) (k : Nat) (rows : List (List Int)), (allI w t br k ps rows).length ≤ n ^ ps.length * rows.length
  | [], _, rows => by simp [allI]
  | p :: ps, k, rows => by
    show (allI w t br (k + 1) ps (stepI w t br k p rows)).length ≤ _
    refine Nat.le_trans (all_le h h1 t br ps (k + 1) _) ?_
    rw [List.length_cons, Nat.pow_succ, Nat.mul_assoc]
    exact Nat.mul_le_mul_left _ (step_le h h1 t br k p rows)
theorem rows_small {w : Wk} {br : List Int} {l : Lk} (r5 : w.ring ≤ 5) (h6 : w.parts.length ≤ 6) (h4 : 3 < w.ring → w.parts.length ≤ 4) : (rowsI w br l).length < 4000 := by
  unfold rowsI
  by_cases h3 : w.ring ≤ 3
  · have g1 := all_le (n := 3) (w := w) (by omega) (by decide) (dictI l.2) br w.parts 0 [l.1]
    have g2 : 3 ^ w.parts.length ≤ 3 ^ 6 := Nat.pow_le_pow_right (by decide) h6
    simp at g1
    omega
  · have g1 := all_le (n := 5) (w := w) (by omega) (by decide) (dictI l.2) br w.parts 0 [l.1]
    have g2 : 5 ^ w.parts.length ≤ 5 ^ 4 := Nat.pow_le_pow_right (by decide) (h4 (by omega))
    simp at g1
    omega
theorem ne_nil0 : dCmp .NotEq (.lst []) (.lst []) = .ok (.bl false) := c_ne_self (n := 1) (d := .lst []) (fun y hy => by cases hy)
end PyV
namespace PyK09
open PySem PySem.Spec PyProof.Rows L2 PyV
def f0 : Fn := ⟨3, 3, (.cons (.ret (.bop .And (.cons (.bl .isi (.cons (.v 0) (.cons (.ty "int") .nil))) (.cons (.nt (.bl .isi (.cons (.v 0) (.cons (.ty "bool") .nil)))) (.cons (.chn .LtE .LtE (.v 1) (.v 0) (.v 2)) .nil))))) .nil)⟩ -- is_among
def f1 : Fn := ⟨3, 5, (.cons (.set 3 false (.ix (.v 1) (.ix (.v 0) (.ki 1)))) (.cons (.iff (.cmp .Eq (.ix (.v 0) (.ki 0)) (.ks "not")) (.cons (.ret (.bin .Sub (.bin .Sub (.v 2) (.ki 1)) (.v 3))) .nil) .nil) (.cons (.set 4 false (.ix (.v 1) (.ix (.v 0) (.ki 2)))) (.cons (.iff (.cmp .Eq (.ix (.v 0) (.ki 0)) (.ks "sum")) (.cons (.ret (.bin .Mod (.bin .Add (.v 3) (.v 4)) (.v 2))) .nil) .nil) (.cons (.iff (.cmp .Eq (.ix (.v 0) (.ki 0)) (.ks "stop")) (.cons (.ret (.ite (.cmp .Eq (.v 4) (.ki 0)) (.v 3) (.ki 0))) .nil) .nil) (.cons (.ret (.ite (.cmp .Eq (.v 3) (.ki 0)) (.v 4) (.ix (.v 1) (.ix (.v 0) (.ki 3))))) .nil))))))⟩ -- given_of
def f2 : Fn := ⟨2, 3, (.cons (.iff (.bop .Or (.cons (.nt (.bl .isi (.cons (.v 1) (.cons (.ty "tuple") .nil)))) (.cons (.cmp .NotEq (.bl .len (.cons (.v 1) .nil)) (.ix (.v 0) (.ki 1))) .nil))) (.cons (.rai "BadGiven") .nil) .nil) (.cons (.iff (.nt (.bl .all (.cons (.lc (.call 0 (.cons (.v 2) (.cons (.ki 0) (.cons (.bin .Sub (.ix (.v 0) (.ki 0)) (.ki 1)) .nil)))) [2] (.sq (.v 1)) .no) .nil))) (.cons (.rai "BadGiven") .nil) .nil) (.cons (.ret (.kb true)) .nil)))⟩ -- need_given
def f3 : Fn := ⟨2, 4, (.cons (.iff (.nt (.bl .isi (.cons (.v 1) (.cons (.ty "tuple") .nil)))) (.cons (.rai "BadLook") .nil) .nil) (.cons (.set 2 false (.bin .Sub (.ix (.v 0) (.ki 1)) (.ki 1))) (.cons (.forr [3] (.sq (.v 1)) (.cons (.iff (.bop .Or (.cons (.nt (.bl .isi (.cons (.v 3) (.cons (.ty "tuple") .nil)))) (.cons (.cmp .NotEq (.bl .len (.cons (.v 3) .nil)) (.ki 2)) .nil))) (.cons (.rai "BadLook") .nil) .nil) (.cons (.iff (.nt (.call 0 (.cons (.ix (.v 3) (.ki 0)) (.cons (.bin .Add (.v 2) (.ki 1)) (.cons (.bin .Sub (.bin .Add (.ix (.v 0) (.ki 1)) (.bl .len (.cons (.ix (.v 0) (.ki 2)) .nil))) (.ki 1)) .nil))))) (.cons (.rai "BadLook") .nil) .nil) (.cons (.iff (.nt (.call 0 (.cons (.ix (.v 3) (.ki 1)) (.cons (.ki 0) (.cons (.bin .Sub (.ix (.v 0) (.ki 0)) (.ki 1)) .nil))))) (.cons (.rai "BadLook") .nil) .nil) (.cons (.set 2 false (.ix (.v 3) (.ki 0))) .nil))))) .nil)))⟩ -- need_seen
def f4 : Fn := ⟨2, 2, (.cons (.iff (.bop .Or (.cons (.nt (.bl .isi (.cons (.v 1) (.cons (.ty "tuple") .nil)))) (.cons (.cmp .NotEq (.bl .len (.cons (.v 1) .nil)) (.ki 2)) .nil))) (.cons (.rai "BadLook") .nil) .nil) (.cons (.tryT (.cons (.exp (.call 2 (.cons (.v 0) (.cons (.ix (.v 1) (.ki 0)) .nil)))) .nil)) (.cons (.exp (.call 3 (.cons (.v 0) (.cons (.ix (.v 1) (.ki 1)) .nil)))) (.cons (.ret (.kb true)) .nil))))⟩ -- need_look
def f5 : Fn := ⟨2, 4, (.cons (.iff (.nt (.bl .isi (.cons (.v 1) (.cons (.ty "tuple") .nil)))) (.cons (.rai "BadSet") .nil) .nil) (.cons (.set 2 false (.neg (.ki 1))) (.cons (.forr [3] (.sq (.v 1)) (.cons (.iff (.nt (.call 0 (.cons (.v 3) (.cons (.bin .Add (.v 2) (.ki 1)) (.cons (.bin .Sub (.bl .len (.cons (.ix (.v 0) (.ki 2)) .nil)) (.ki 1)) .nil))))) (.cons (.rai "BadSet") .nil) .nil) (.cons (.set 2 false (.v 3)) .nil))) (.cons (.ret (.kb true)) .nil))))⟩ -- need_set
def f6 : Fn := ⟨4, 4, (.cons (.iff (.cmp .In (.v 3) (.v 2)) (.cons (.ret (.lrg (.ki 0) (.ix (.v 0) (.ki 0)))) .nil) .nil) (.cons (.ret (.lst (.cons (.call 1 (.cons (.ix (.ix (.v 0) (.ki 2)) (.v 3)) (.cons (.v 1) (.cons (.ix (.v 0) (.ki 0)) .nil)))) .nil))) .nil))⟩ -- choices
def f7 : Fn := ⟨4, 8, (.cons (.set 4 false (.bl .len (.cons (.v 1) .nil))) (.cons (.set 5 false (.bin .Sub (.v 4) (.ix (.v 0) (.ki 1)))) (.cons (.iff (.cmp .Eq (.v 5) (.bl .len (.cons (.ix (.v 0) (.ki 2)) .nil))) (.cons (.ret (.bl .tuple (.cons (.v 1) .nil))) .nil) .nil) (.cons (.forr [6] (.sq (.call 6 (.cons (.v 0) (.cons (.v 1) (.cons (.v 3) (.cons (.v 5) .nil)))))) (.cons (.iff (.cmp .Eq (.get2 (.v 2) (.v 4) (.v 6)) (.v 6)) (.cons (.set 7 false (.call 7 (.cons (.v 0) (.cons (.bin .Add (.v 1) (.lst (.cons (.v 6) .nil))) (.cons (.v 2) (.cons (.v 3) .nil)))))) (.cons (.iff (.cmp .IsNot (.v 7) .kn) (.cons (.ret (.v 7)) .nil) .nil) .nil)) .nil) .nil)) (.cons (.ret .kn) .nil)))))⟩ -- filled
def f8 : Fn := ⟨4, 7, (.cons (.exp (.call 4 (.cons (.v 0) (.cons (.v 1) .nil)))) (.cons (.exp (.call 5 (.cons (.v 0) (.cons (.v 2) .nil)))) (.cons (.iff (.nt (.call 0 (.cons (.v 3) (.cons (.ki 0) (.cons (.bin .Sub (.bin .Add (.ix (.v 0) (.ki 1)) (.bl .len (.cons (.ix (.v 0) (.ki 2)) .nil))) (.ki 1)) .nil))))) (.cons (.rai "NoLine") .nil) .nil) (.cons (.set 4 true (.lst .nil)) (.cons (.forr [5] (.r1 (.ix (.v 0) (.ki 0))) (.cons (.set 6 true (.bl .dict (.cons (.ix (.v 1) (.ki 1)) .nil))) (.cons (.iff (.bop .And (.cons (.cmp .GtE (.v 3) (.ix (.v 0) (.ki 1))) (.cons (.cmp .Eq (.get2 (.v 6) (.v 3) (.v 5)) (.v 5)) .nil))) (.cons (.sub 6 (.v 3) (.v 5)) (.cons (.iff (.cmp .IsNot (.call 7 (.cons (.v 0) (.cons (.bl .list (.cons (.ix (.v 1) (.ki 0)) .nil)) (.cons (.v 6) (.cons (.v 2) .nil))))) .kn) (.cons (.app 4 (.v 5)) .nil) .nil) .nil)) .nil) .nil))) (.cons (.iff (.bop .And (.cons (.cmp .Lt (.v 3) (.ix (.v 0) (.ki 1))) (.cons (.cmp .IsNot (.call 7 (.cons (.v 0) (.cons (.bl .list (.cons (.ix (.v 1) (.ki 0)) .nil)) (.cons (.bl .dict (.cons (.ix (.v 1) (.ki 1)) .nil)) (.cons (.v 2) .nil))))) .kn) .nil))) (.cons (.app 4 (.ix (.ix (.v 1) (.ki 0)) (.v 3))) .nil) .nil) (.cons (.ret (.v 4)) .nil)))))))⟩ -- shown
def f9 : Fn := ⟨2, 2, (.cons (.ret (.ix (.bin .Add (.sl (.v 0) (.v 1) (.bin .Add (.v 1) (.ki 1))) (.lst (.cons (.ki 0) .nil))) (.ki 0))) .nil)⟩ -- _law_cell
def f10 : Fn := ⟨2, 2, (.cons (.ret (.bin .Mod (.bin .Mult (.bin .Add (.call 9 (.cons (.v 0) (.cons (.v 1) .nil))) (.bin .Mult (.ki 101) (.v 1))) (.ki 48271)) (.ki 2147483647))) .nil)⟩ -- _law_mixed
def f11 : Fn := ⟨1, 1, (.cons (.ret (.bop .And (.cons (.bl .isi (.cons (.v 0) (.cons (.ty "int") .nil))) (.cons (.nt (.bl .isi (.cons (.v 0) (.cons (.ty "bool") .nil)))) .nil)))) .nil)⟩ -- _law_whole
def f12 : Fn := ⟨2, 6, (.cons (.set 2 false (.ix (.lst (.cons (.ks "sum") (.cons (.ks "stop") (.cons (.ks "pick") (.cons (.ks "not") .nil))))) (.bin .Mod (.v 0) (.ki 4)))) (.cons (.set 3 true (.lst .nil)) (.cons (.forr [4] (.r1 (.ix (.dct (.cons (.ks "sum") (.cons (.ki 2) (.cons (.ks "stop") (.cons (.ki 2) (.cons (.ks "pick") (.cons (.ki 3) (.cons (.ks "not") (.cons (.ki 1) .nil))))))))) (.v 2))) (.cons (.set 5 false (.bin .FloorDiv (.bin .FloorDiv (.v 0) (.ki 4)) (.ix (.lst (.cons (.ki 1) (.cons (.ki 7) (.cons (.ki 49) .nil)))) (.v 4)))) (.cons (.iff (.cmp .Eq (.bin .Mod (.v 5) (.ki 2)) (.ki 0)) (.cons (.app 3 (.bin .Sub (.bin .Sub (.v 1) (.ki 1)) (.bin .Mod (.bin .FloorDiv (.v 5) (.ki 2)) (.bl .min (.cons (.v 1) (.cons (.ki 3) .nil)))))) .nil) (.cons (.app 3 (.bin .Mod (.bin .FloorDiv (.v 5) (.ki 2)) (.v 1))) .nil)) .nil))) (.cons (.ret (.bl .tuple (.cons (.bin .Add (.lst (.cons (.v 2) .nil)) (.v 3)) .nil))) .nil))))⟩ -- _law_part
def f13 : Fn := ⟨2, 8, (.cons (.set 2 false (.call 10 (.cons (.v 0) (.cons (.ki 0) .nil)))) (.cons (.set 3 false (.ix (.lst (.cons (.ki 2) (.cons (.ki 2) (.cons (.ki 3) (.cons (.ki 2) (.cons (.ki 3) (.cons (.ki 4) (.cons (.ki 5) (.cons (.ki 2) .nil))))))))) (.bin .Mod (.v 2) (.ki 8)))) (.cons (.set 4 false (.bin .Add (.ki 1) (.bin .Mod (.bin .FloorDiv (.v 2) (.ki 8)) (.ki 3)))) (.cons (.iff (.cmp .Eq (.bin .Mod (.bin .FloorDiv (.v 2) (.ki 24)) (.ki 8)) (.ki 1)) (.cons (.set 4 false (.bin .Add (.ki 1) (.bin .Mod (.bin .FloorDiv (.v 2) (.ki 192)) (.ki 6)))) .nil) .nil) (.cons (.set 5 false (.bin .Add (.ki 1) (.bin .Mod (.call 10 (.cons (.v 0) (.cons (.ki 1) .nil))) (.v 1)))) (.cons (.iff (.bop .And (.cons (.cmp .Gt (.v 3) (.ki 3)) (.cons (.cmp .Lt (.v 1) (.ki 8)) .nil))) (.cons (.set 5 false (.bl .min (.cons (.v 5) (.cons (.ki 4) .nil)))) .nil) .nil) (.cons (.set 6 false (.lc (.call 12 (.cons (.call 10 (.cons (.v 0) (.cons (.bin .Add (.ki 2) (.v 7)) .nil))) (.cons (.bin .Add (.v 4) (.v 7)) .nil))) [7] (.r1 (.v 5)) .no)) (.cons (.ret (.tup (.cons (.v 3) (.cons (.v 4) (.cons (.v 6) .nil))))) .nil))))))))⟩ -- _law_work
def f14 : Fn := ⟨3, 4, (.cons (.set 3 false (.ix (.v 1) (.ix (.v 0) (.ki 1)))) (.cons (.iff (.cmp .Eq (.ix (.v 0) (.ki 0)) (.ks "not")) (.cons (.ret (.bin .Sub (.bin .Sub (.v 2) (.ki 1)) (.v 3))) .nil) .nil) (.cons (.iff (.cmp .Eq (.ix (.v 0) (.ki 0)) (.ks "sum")) (.cons (.ret (.bin .Mod (.bin .Add (.v 3) (.ix (.v 1) (.ix (.v 0) (.ki 2)))) (.v 2))) .nil) .nil) (.cons (.iff (.cmp .Eq (.ix (.v 0) (.ki 0)) (.ks "stop")) (.cons (.ret (.bin .Mult (.v 3) (.bl .int (.cons (.cmp .Eq (.ix (.v 1) (.ix (.v 0) (.ki 2))) (.ki 0)) .nil)))) .nil) .nil) (.cons (.iff (.cmp .Eq (.v 3) (.ki 0)) (.cons (.ret (.ix (.v 1) (.ix (.v 0) (.ki 2)))) .nil) .nil) (.cons (.ret (.ix (.v 1) (.ix (.v 0) (.ki 3)))) .nil))))))⟩ -- _law_due
def f15 : Fn := ⟨3, 5, (.cons (.set 3 true (.bl .list (.cons (.v 1) .nil))) (.cons (.forr [4] (.r1 (.bl .len (.cons (.ix (.v 0) (.ki 2)) .nil))) (.cons (.app 3 (.get2 (.v 2) (.v 4) (.call 14 (.cons (.ix (.ix (.v 0) (.ki 2)) (.v 4)) (.cons (.v 3) (.cons (.ix (.v 0) (.ki 0)) .nil)))))) .nil)) (.cons (.ret (.v 3)) .nil)))⟩ -- _law_run
def f16 : Fn := ⟨2, 4, (.cons (.set 2 false (.lst (.cons (.ki 1) (.cons (.ki 5) (.cons (.ki 25) (.cons (.ki 125) (.cons (.ki 625) (.cons (.ki 3125) .nil)))))))) (.cons (.ret (.bl .tuple (.cons (.lc (.bin .Mod (.bin .FloorDiv (.v 1) (.ix (.v 2) (.v 3))) (.ix (.v 0) (.ki 0))) [3] (.r1 (.ix (.v 0) (.ki 1))) .no) .nil))) .nil))⟩ -- _law_given
def f17 : Fn := ⟨3, 12, (.cons (.set 3 false (.call 16 (.cons (.v 0) (.cons (.v 1) .nil)))) (.cons (.set 4 false (.bl .len (.cons (.ix (.v 0) (.ki 2)) .nil))) (.cons (.set 5 true (.dct .nil)) (.cons (.forr [6] (.r1 (.bin .Mod (.v 2) (.ki 3))) (.cons (.set 9 false (.bin .Mod (.bin .FloorDiv (.bin .FloorDiv (.v 2) (.ki 3)) (.bin .Add (.ki 1) (.bin .Mult (.ki 6) (.v 6)))) (.v 4))) (.cons (.sub 5 (.v 9) (.bin .Mod (.bin .FloorDiv (.bin .FloorDiv (.v 2) (.ki 40)) (.bin .Add (.ki 1) (.bin .Mult (.ki 4) (.v 6)))) (.ix (.v 0) (.ki 0)))) .nil))) (.cons (.set 7 false (.call 15 (.cons (.v 0) (.cons (.v 3) (.cons (.v 5) .nil))))) (.cons (.set 8 true (.lst .nil)) (.cons (.forr [6] (.r1 (.v 4)) (.cons (.set 10 false (.cmp .Eq (.bin .Mod (.bin .FloorDiv (.bin .FloorDiv (.v 2) (.ki 200)) (.bin .Add (.ki 1) (.v 6))) (.ki 3)) (.ki 1))) (.cons (.iff (.bop .Or (.cons (.v 10) (.cons (.bop .And (.cons (.cmp .Eq (.v 6) (.bin .Sub (.v 4) (.ki 1))) (.cons (.cmp .Gt (.bin .Mod (.bin .FloorDiv (.v 2) (.ki 7)) (.ki 4)) (.ki 0)) .nil))) .nil))) (.cons (.set 11 false (.ix (.v 7) (.bin .Add (.ix (.v 0) (.ki 1)) (.v 6)))) (.cons (.iff (.cmp .Eq (.bin .Mod (.bin .FloorDiv (.v 2) (.ki 11)) (.ki 9)) (.ki 5)) (.cons (.set 11 false (.bin .Mod (.bin .Add (.v 11) (.bin .FloorDiv (.v 2) (.bin .Add (.ki 13) (.v 6)))) (.ix (.v 0) (.ki 0)))) .nil) .nil) (.cons (.iff (.bop .And (.cons (.cmp .Gt (.bin .Mod (.bin .FloorDiv (.v 2) (.ki 11)) (.ki 9)) (.ki 5)) (.cons (.cmp .Eq (.v 6) (.bin .Sub (.v 4) (.ki 1))) .nil))) (.cons (.set 11 false (.bin .Mod (.bin .Add (.v 11) (.ki 1)) (.ix (.v 0) (.ki 0)))) .nil) .nil) (.cons (.app 8 (.tup (.cons (.bin .Add (.ix (.v 0) (.ki 1)) (.v 6)) (.cons (.v 11) .nil)))) .nil)))) .nil) .nil))) (.cons (.ret (.tup (.cons (.v 3) (.cons (.bl .tuple (.cons (.v 8) .nil)) .nil)))) .nil))))))))⟩ -- _law_look
def f18 : Fn := ⟨4, 8, (.cons (.set 4 true (.lst .nil)) (.cons (.forr [5] (.r1 (.bin .Mod (.call 10 (.cons (.v 0) (.cons (.v 2) .nil))) (.bin .Add (.v 3) (.ki 1)))) (.cons (.set 6 false (.call 10 (.cons (.v 0) (.cons (.bin .Add (.bin .Add (.v 2) (.ki 1)) (.bin .Mult (.ki 2) (.v 5))) .nil)))) (.cons (.set 7 false (.call 10 (.cons (.v 0) (.cons (.bin .Add (.bin .Add (.v 2) (.ki 2)) (.bin .Mult (.ki 2) (.v 5))) .nil)))) (.cons (.app 4 (.call 17 (.cons (.v 1) (.cons (.v 6) (.cons (.v 7) .nil))))) .nil)))) (.cons (.ret (.v 4)) .nil)))⟩ -- _law_looks
def f19 : Fn := ⟨4, 11, (.cons (.set 4 false (.lst (.cons (.bl .list (.cons (.v 1) .nil)) .nil))) (.cons (.forr [5] (.r1 (.bl .len (.cons (.ix (.v 0) (.ki 2)) .nil))) (.cons (.set 6 false (.bin .Add (.ix (.v 0) (.ki 1)) (.v 5))) (.cons (.set 7 true (.lst .nil)) (.cons (.forr [8] (.sq (.v 4)) (.cons (.set 9 false (.lst (.cons (.call 14 (.cons (.ix (.ix (.v 0) (.ki 2)) (.v 5)) (.cons (.v 8) (.cons (.ix (.v 0) (.ki 0)) .nil)))) .nil))) (.cons (.iff (.cmp .In (.v 5) (.v 3)) (.cons (.set 9 false (.lrg (.ki 0) (.ix (.v 0) (.ki 0)))) .nil) .nil) (.cons (.forr [10] (.sq (.v 9)) (.cons (.iff (.cmp .Eq (.get2 (.v 2) (.v 6) (.v 10)) (.v 10)) (.cons (.app 7 (.bin .Add (.v 8) (.lst (.cons (.v 10) .nil)))) .nil) .nil) .nil)) .nil)))) (.cons (.set 4 false (.v 7)) .nil))))) (.cons (.ret (.v 4)) .nil)))⟩ -- _law_all
def f20 : Fn := ⟨2, 4, (.cons (.set 2 false (.lst (.cons (.ki 1) (.cons (.ki 3) (.cons (.ki 9) (.cons (.ki 27) (.cons (.ki 81) (.cons (.ki 243) (.cons (.ki 729) (.cons (.ki 2187) (.cons (.ki 6561) (.cons (.ki 19683) .nil)))))))))))) (.cons (.ret (.bl .tuple (.cons (.lc (.v 3) [3] (.r1 (.v 1)) (.cmp .Eq (.bin .Mod (.bin .FloorDiv (.v 0) (.ix (.v 2) (.v 3))) (.ki 3)) (.ki 1))) .nil))) .nil))⟩ -- _law_drawn
def f21 : Fn := ⟨4, 6, (.cons (.set 4 false (.call 19 (.cons (.v 0) (.cons (.ix (.v 1) (.ki 0)) (.cons (.bl .dict (.cons (.ix (.v 1) (.ki 1)) .nil)) (.cons (.v 2) .nil)))))) (.cons (.ret (.sst (.lc (.ix (.v 5) (.v 3)) [5] (.sq (.v 4)) .no))) .nil))⟩ -- _law_digits
def f22 : Fn := ⟨1, 12, (.cons (.set 1 false (.call 13 (.cons (.v 0) (.cons (.ki 6) .nil)))) (.cons (.set 2 false (.bin .Add (.ix (.v 1) (.ki 1)) (.bl .len (.cons (.ix (.v 1) (.ki 2)) .nil)))) (.cons (.set 3 false (.call 17 (.cons (.v 1) (.cons (.call 10 (.cons (.v 0) (.cons (.ki 12) .nil))) (.cons (.call 10 (.cons (.v 0) (.cons (.ki 13) .nil))) .nil))))) (.cons (.set 4 false (.call 20 (.cons (.call 10 (.cons (.v 0) (.cons (.ki 21) .nil))) (.cons (.bl .len (.cons (.ix (.v 1) (.ki 2)) .nil)) .nil)))) (.cons (.set 5 false (.bin .Mod (.call 10 (.cons (.v 0) (.cons (.ki 22) .nil))) (.v 2))) (.cons (.set 6 false (.bin .Mod (.call 10 (.cons (.v 0) (.cons (.ki 23) .nil))) (.v 2))) (.cons (.set 7 false (.call 21 (.cons (.v 1) (.cons (.v 3) (.cons (.v 4) (.cons (.v 5) .nil)))))) (.cons (.set 8 true (.call 8 (.cons (.v 1) (.cons (.v 3) (.cons (.v 4) (.cons (.v 5) .nil)))))) (.cons (.iff (.bop .Or (.cons (.nt (.bl .isi (.cons (.v 8) (.cons (.ty "list") .nil)))) (.cons (.cmp .NotEq (.v 8) (.v 7)) (.cons (.cmp .NotEq (.lc (.v 11) [11] (.sq (.v 8)) (.nt (.call 11 (.cons (.v 11) .nil)))) (.lst .nil)) .nil)))) (.cons (.ret (.kb false)) .nil) .nil) (.cons (.set 9 false (.call 8 (.cons (.v 1) (.cons (.v 3) (.cons (.v 4) (.cons (.v 6) .nil)))))) (.cons (.iff (.bop .Or (.cons (.cmp .NotEq (.v 9) (.call 21 (.cons (.v 1) (.cons (.v 3) (.cons (.v 4) (.cons (.v 6) .nil)))))) (.cons (.cmp .NotEq (.v 8) (.v 7)) .nil))) (.cons (.ret (.kb false)) .nil) .nil) (.cons (.app 8 (.ki 0)) (.cons (.set 10 false (.call 8 (.cons (.v 1) (.cons (.v 3) (.cons (.v 4) (.cons (.v 5) .nil)))))) (.cons (.ret (.bop .And (.cons (.cmp .Eq (.v 10) (.v 7)) (.cons (.cmp .Eq (.v 8) (.bin .Add (.v 7) (.lst (.cons (.ki 0) .nil)))) (.cons (.cmp .Eq (.v 9) (.call 21 (.cons (.v 1) (.cons (.v 3) (.cons (.v 4) (.cons (.v 6) .nil)))))) .nil))))) .nil))))))))))))))⟩ -- law
def nm : List Str := ["is_among", "given_of", "need_given", "need_seen", "need_look", "need_set", "choices", "filled", "shown", "_law_cell", "_law_mixed", "_law_whole", "_law_part", "_law_work", "_law_due", "_law_run", "_law_given", "_law_look", "_law_looks", "_law_all", "_law_drawn", "_law_digits", "law"]
def tab : List Fn := [f0, f1, f2, f3, f4, f5, f6, f7, f8, f9, f10, f11, f12, f13, f14, f15, f16, f17, f18, f19, f20, f21, f22]
def T : Nat → Option Fn := fun i => tab[i]?
def excs : List Str := ["WorkError", "BadGiven", "BadLook", "BadSet", "NoLine"]
def Z : Str → Bool := fun x => excs.contains x
def G : Str → Option PyV.D := fun _ => none
theorem C_cell {K : Nat} (hK : 1 ≤ K) {ns : List Int} (hn : ns.length ≤ 63) {j : Int} (h : 0 ≤ j) : PyV.run T G Z K 9 [.frz (ns.map D.int), .int j] = .ok (.int (cell ns j)) := by
  obtain ⟨k, rfl⟩ : ∃ k, K = k + 1 := ⟨K - 1, by omega⟩
  exact run_cell ⟨PyV.run T G Z k, G, Z⟩ ns hn h
theorem C_mixed {K : Nat} (hK : 2 ≤ K) {ns : List Int} (hn : ns.length ≤ 63) {j : Int} (h : 0 ≤ j) : PyV.run T G Z K 10 [.frz (ns.map D.int), .int j] = .ok (.int (mixed ns j)) := by
  obtain ⟨k, rfl⟩ : ∃ k, K = k + 1 := ⟨K - 1, by omega⟩
  exact run_mixed ⟨PyV.run T G Z k, G, Z⟩ 9 ns (C_cell (by omega) hn h)
theorem C_part {K : Nat} (hK : 1 ≤ K) {c : Int} {l : Nat} (h1 : 0 ≤ c) (h2 : 1 ≤ l) (h3 : l ≤ 1000) : ∃ p : Pt, p.ok l ∧ PyV.run T G Z K 12 [.int c, .int l] = .ok p.D := by
  obtain ⟨k, rfl⟩ : ∃ k, K = k + 1 := ⟨K - 1, by omega⟩
  exact run_part ⟨PyV.run T G Z k, G, Z⟩ h1 h2 h3
theorem C_work {K : Nat} (hK : 3 ≤ K) {ns : List Int} (hn : ns.length ≤ 63) {most : Nat} (h1 : 1 ≤ most) (h10 : most ≤ 10) : ∃ w : Wk, w.ok ∧ w.parts.length ≤ most ∧ (3 < w.ring → most < 8 → w.parts.length ≤ 4) ∧ PyV.run T G Z K 13 [.frz (ns.map D.int), .int most] = .ok w.D := by
  obtain ⟨k, rfl⟩ : ∃ k, K = k + 1 := ⟨K - 1, by omega⟩
  exact run_work ⟨PyV.run T G Z k, G, Z⟩ 10 12 ns h1 h10 (fun h => C_mixed (by omega) hn h) (fun c l g1 g2 g3 => C_part (by omega) g1 g2 g3)
theorem C_among {K : Nat} (hK : 1 ≤ K) (j lo hi : Int) : PyV.run T G Z K 0 [.int j, .int lo, .int hi] = .ok (.bl (decide (lo ≤ j) && decide (j ≤ hi))) := by
  obtain ⟨k, rfl⟩ : ∃ k, K = k + 1 := ⟨K - 1, by omega⟩
  exact run_among ⟨PyV.run T G Z k, G, Z⟩ j lo hi
theorem C_givenof {K : Nat} (hK : 1 ≤ K) {ds : List Int} {ring : Int} {p : Pt} (hr : 0 < ring) (h : p.ok ds.length) : PyV.run T G Z K 1 [p.D, .lst (ds.map PyV.D.int), .int ring] = .ok (.int (p.val ring ds)) := by
  obtain ⟨k, rfl⟩ : ∃ k, K = k + 1 := ⟨K - 1, by omega⟩
  exact given_pt ⟨PyV.run T G Z k, G, Z⟩ hr h
theorem C_due {K : Nat} (hK : 1 ≤ K) {ds : List Int} {ring : Int} {p : Pt} (hr : 0 < ring) (h : p.ok ds.length) : PyV.run T G Z K 14 [p.D, .lst (ds.map PyV.D.int), .int ring] = .ok (.int (p.val ring ds)) := by
  obtain ⟨k, rfl⟩ : ∃ k, K = k + 1 := ⟨K - 1, by omega⟩
  exact due_pt ⟨PyV.run T G Z k, G, Z⟩ hr h
theorem C_whole {K : Nat} (hK : 1 ≤ K) (j : Int) : PyV.run T G Z K 11 [.int j] = .ok (.bl true) := by
  obtain ⟨k, rfl⟩ : ∃ k, K = k + 1 := ⟨K - 1, by omega⟩
  exact run_whole ⟨PyV.run T G Z k, G, Z⟩ j
theorem C_need {K : Nat} (hK : 2 ≤ K) {w : Wk} (hw : w.ok) {gs : List Int} (hl : gs.length = w.inp) (hg : ∀ g ∈ gs, 0 ≤ g ∧ g < w.ring) : PyV.run T G Z K 2 [w.D, .tup (gs.map D.int)] = .ok (.bl true) := by
  obtain ⟨k, rfl⟩ : ∃ k, K = k + 1 := ⟨K - 1, by omega⟩
  exact run_need ⟨PyV.run T G Z k, G, Z⟩ 0 (fun j lo hi => C_among (by omega) j lo hi) hw hl hg
theorem C_seen {K : Nat} (hK : 2 ≤ K) {w : Wk} (hw : w.ok) {sn : List (Int × Int)} (h : SeenFrom w (w.inp - 1) sn) : PyV.run T G Z K 3 [w.D, sD sn] = .ok .non := by
  obtain ⟨k, rfl⟩ : ∃ k, K = k + 1 := ⟨K - 1, by omega⟩
  exact run_seen ⟨PyV.run T G Z k, G, Z⟩ 0 (fun j lo hi => C_among (by omega) j lo hi) hw h
theorem C_look {K : Nat} (hK : 3 ≤ K) {w : Wk} (hw : w.ok) {l : Lk} (hl : LkOk w l) : PyV.run T G Z K 4 [w.D, LkD l] = .ok (.bl true) := by
  obtain ⟨k, rfl⟩ : ∃ k, K = k + 1 := ⟨K - 1, by omega⟩
  exact run_look ⟨PyV.run T G Z k, G, Z⟩ 2 3 (C_need (by omega) hw hl.1 hl.2.1) (C_seen (by omega) hw hl.2.2)
theorem C_set {K : Nat} (hK : 2 ≤ K) {w : Wk} {br : List Int} (h : SetFrom w.parts.length (-1) br) : PyV.run T G Z K 5 [w.D, bD br] = .ok (.bl true) := by
  obtain ⟨k, rfl⟩ : ∃ k, K = k + 1 := ⟨K - 1, by omega⟩
  exact run_set ⟨PyV.run T G Z k, G, Z⟩ 0 (fun j lo hi => C_among (by omega) j lo hi) h
theorem C_choices {K : Nat} (hK : 2 ≤ K) {w : Wk} (hw : w.ok) (br : List Int) {j : Nat} {p : Pt} (hp : w.parts[j]? = some p) {ds : List Int} (hl : ds.length = w.inp + j) : PyV.run T G Z K 6 [w.D, .lst (ds.map D.int), bD br, .int j] = .ok (.lst ((choicesI w.ring br j p ds).map D.int)) := by
  obtain ⟨k, rfl⟩ : ∃ k, K = k + 1 := ⟨K - 1, by omega⟩
  exact run_choices ⟨PyV.run T G Z k, G, Z⟩ 1 hw br hp hl (C_givenof (by omega) (by have := hw.r2; omega) (by rw [hl]; exact hw.at_ j p hp))
theorem C_filled {K : Nat} (hK : 13 ≤ K) {w : Wk} (hw : w.ok) (t : List (Int × Int)) (br : List Int) {gs : List Int} (hl : gs.length = w.inp) : PyV.run T G Z K 7 [w.D, .lst (gs.map D.int), tD t, bD br] = .ok (optD (fillI w t br 0 w.parts gs)) := by
  have p10 := hw.p10
  obtain ⟨k, rfl⟩ : ∃ k, K = k + 1 := ⟨K - 1, by omega⟩
  have := run_filled (T := T) (G := G) (Z := Z) 6 7 2 rfl hw t br (fun L hL j p ds hp hd => C_choices hL hw br hp hd) w.parts.length 0 gs k (by omega) (by omega) (by omega)
  rw [List.drop_zero] at this
  exact this
theorem C_lrun {K : Nat} (hK : 2 ≤ K) {w : Wk} (hw : w.ok) {gs : List Int} (hl : gs.length = w.inp) (t : List (Int × Int)) : PyV.run T G Z K 15 [w.D, .tup (gs.map D.int), tD t] = .ok (.lst ((ranI w.ring t 0 w.parts gs).map D.int)) := by
  obtain ⟨k, rfl⟩ : ∃ k, K = k + 1 := ⟨K - 1, by omega⟩
  exact run_lrun ⟨PyV.run T G Z k, G, Z⟩ 14 hw hl t (fun p ds h => C_due (by omega) (by have := hw.r2; omega) h)
theorem C_lgiven {K : Nat} (hK : 1 ≤ K) {w : Wk} (hw : w.ok) (c : Int) : ∃ gs : List Int, gs.length = w.inp ∧ (∀ g ∈ gs, 0 ≤ g ∧ g < w.ring) ∧ PyV.run T G Z K 16 [w.D, .int c] = .ok (.tup (gs.map D.int)) := by
  obtain ⟨k, rfl⟩ : ∃ k, K = k + 1 := ⟨K - 1, by omega⟩
  exact run_lgiven ⟨PyV.run T G Z k, G, Z⟩ hw c
theorem C_llook {K : Nat} (hK : 3 ≤ K) {w : Wk} (hw : w.ok) (c : Int) {m : Int} (hm : 0 ≤ m) : ∃ l : Lk, LkOk w l ∧ PyV.run T G Z K 17 [w.D, .int c, .int m] = .ok (LkD l) := by
  obtain ⟨k, rfl⟩ : ∃ k, K = k + 1 := ⟨K - 1, by omega⟩
  obtain ⟨gs, h1, h2, h3⟩ := C_lgiven (K := k) (by omega) hw c
  obtain ⟨sn, h4, h5⟩ := run_llook ⟨PyV.run T G Z k, G, Z⟩ 16 15 hw hm h1 h2 h3 (fun t => C_lrun (by omega) hw h1 t)
  exact ⟨(gs, sn), ⟨h1, h2, h4⟩, h5⟩
theorem C_llooks {K : Nat} (hK : 4 ≤ K) {ns : List Int} (hn : ns.length ≤ 63) {w : Wk} (hw : w.ok) {f : Int} (hf : 0 ≤ f) {most : Nat} (hmo : most ≤ 900) : ∃ ls : List Lk, ls.length ≤ most ∧ (∀ l ∈ ls, LkOk w l) ∧ PyV.run T G Z K 18 [.frz (ns.map D.int), w.D, .int f, .int most] = .ok (.lst (ls.map LkD)) := by
  obtain ⟨k, rfl⟩ : ∃ k, K = k + 1 := ⟨K - 1, by omega⟩
  exact run_llooks ⟨PyV.run T G Z k, G, Z⟩ 10 17 hf hmo (fun h => C_mixed (by omega) hn h) (fun c m hm => C_llook (by omega) hw c hm)
theorem C_all {K : Nat} (hK : 2 ≤ K) {w : Wk} (hw : w.ok) (h7 : w.parts.length ≤ 7) (t : List (Int × Int)) (br : List Int) {gs : List Int} (hl : gs.length = w.inp) : PyV.run T G Z K 19 [w.D, .tup (gs.map D.int), tD t, bD br] = .ok (.lst ((allI w t br 0 w.parts [gs]).map rD)) := by
  obtain ⟨k, rfl⟩ : ∃ k, K = k + 1 := ⟨K - 1, by omega⟩
  exact run_all ⟨PyV.run T G Z k, G, Z⟩ 14 hw h7 hl (fun p ds h => C_due (by omega) (by have := hw.r2; omega) h)
theorem C_drawn {K : Nat} (hK : 1 ≤ K) (c : Int) {n : Nat} (hn : n ≤ 10) : ∃ br : List Int, SetFrom n (-1) br ∧ PyV.run T G Z K 20 [.int c, .int n] = .ok (bD br) := by
  obtain ⟨k, rfl⟩ : ∃ k, K = k + 1 := ⟨K - 1, by omega⟩
  exact run_ldrawn ⟨PyV.run T G Z k, G, Z⟩ c hn
theorem C_shown {K : Nat} (hK : 14 ≤ K) {w : Wk} (hw : w.ok) {l : Lk} (hl : LkOk w l) {br : List Int} (hb : SetFrom w.parts.length (-1) br) {line : Nat} (hln : line < w.inp + w.parts.length) : PyV.run T G Z K 8 [w.D, LkD l, bD br, .int line] = .ok (.lst ((shownI w br l line).map D.int)) := by
  obtain ⟨k, rfl⟩ : ∃ k, K = k + 1 := ⟨K - 1, by omega⟩
  exact run_shown ⟨PyV.run T G Z k, G, Z⟩ 4 5 0 7 hw hl hln (C_look (by omega) hw hl) (C_set (by omega) hb) (fun j lo hi => C_among (by omega) j lo hi) (fun t => C_filled (by omega) hw t br hl.1)
theorem C_ldigits {K : Nat} (hK : 3 ≤ K) {w : Wk} (hw : w.ok) {l : Lk} (hl : LkOk w l) {br : List Int} {line : Nat} (hln : line < w.inp + w.parts.length) (h7 : w.parts.length ≤ 7) (hrl : (rowsI w br l).length < 4000) : PyV.run T G Z K 21 [w.D, LkD l, bD br, .int line] = .ok (.lst ((shownI w br l line).map D.int)) := by
  obtain ⟨k, rfl⟩ : ∃ k, K = k + 1 := ⟨K - 1, by omega⟩
  exact run_ldigits ⟨PyV.run T G Z k, G, Z⟩ 19 hw hl hln hrl (C_all (by omega) hw h7 (dictI l.2) br hl.1)
structure Facts (F : Nat → List PyV.D → M PyV.D) : Prop where
  cell : ∀ {ns : List Int} (hn : ns.length ≤ 63) {j : Int} (h : 0 ≤ j), F 9 [.frz (ns.map D.int), .int j] = .ok (.int (cell ns j))
  mixed : ∀ {ns : List Int} (hn : ns.length ≤ 63) {j : Int} (h : 0 ≤ j), F 10 [.frz (ns.map D.int), .int j] = .ok (.int (mixed ns j))
  part : ∀ {c : Int} {l : Nat} (h1 : 0 ≤ c) (h2 : 1 ≤ l) (h3 : l ≤ 1000), ∃ p : Pt, p.ok l ∧ F 12 [.int c, .int l] = .ok p.D
  work : ∀ {ns : List Int} (hn : ns.length ≤ 63) {most : Nat} (h1 : 1 ≤ most) (h10 : most ≤ 10), ∃ w : Wk, w.ok ∧ w.parts.length ≤ most ∧ (3 < w.ring → most < 8 → w.parts.length ≤ 4) ∧ F 13 [.frz (ns.map D.int), .int most] = .ok w.D
  among : ∀ (j lo hi : Int), F 0 [.int j, .int lo, .int hi] = .ok (.bl (decide (lo ≤ j) && decide (j ≤ hi)))
  givenof : ∀ {ds : List Int} {ring : Int} {p : Pt} (hr : 0 < ring) (h : p.ok ds.length), F 1 [p.D, .lst (ds.map PyV.D.int), .int ring] = .ok (.int (p.val ring ds))
  due : ∀ {ds : List Int} {ring : Int} {p : Pt} (hr : 0 < ring) (h : p.ok ds.length), F 14 [p.D, .lst (ds.map PyV.D.int), .int ring] = .ok (.int (p.val ring ds))
  whole : ∀ (j : Int), F 11 [.int j] = .ok (.bl true)
  need : ∀ {w : Wk} (hw : w.ok) {gs : List Int} (hl : gs.length = w.inp) (hg : ∀ g ∈ gs, 0 ≤ g ∧ g < w.ring), F 2 [w.D, .tup (gs.map D.int)] = .ok (.bl true)
  seen : ∀ {w : Wk} (hw : w.ok) {sn : List (Int × Int)} (h : SeenFrom w (w.inp - 1) sn), F 3 [w.D, sD sn] = .ok .non
  look : ∀ {w : Wk} (hw : w.ok) {l : Lk} (hl : LkOk w l), F 4 [w.D, LkD l] = .ok (.bl true)
  set : ∀ {w : Wk} {br : List Int} (h : SetFrom w.parts.length (-1) br), F 5 [w.D, bD br] = .ok (.bl true)
  choices : ∀ {w : Wk} (hw : w.ok) (br : List Int) {j : Nat} {p : Pt} (hp : w.parts[j]? = some p) {ds : List Int} (hl : ds.length = w.inp + j), F 6 [w.D, .lst (ds.map D.int), bD br, .int j] = .ok (.lst ((choicesI w.ring br j p ds).map D.int))
  filled : ∀ {w : Wk} (hw : w.ok) (t : List (Int × Int)) (br : List Int) {gs : List Int} (hl : gs.length = w.inp), F 7 [w.D, .lst (gs.map D.int), tD t, bD br] = .ok (optD (fillI w t br 0 w.parts gs))
  lrun : ∀ {w : Wk} (hw : w.ok) {gs : List Int} (hl : gs.length = w.inp) (t : List (Int × Int)), F 15 [w.D, .tup (gs.map D.int), tD t] = .ok (.lst ((ranI w.ring t 0 w.parts gs).map D.int))
  lgiven : ∀ {w : Wk} (hw : w.ok) (c : Int), ∃ gs : List Int, gs.length = w.inp ∧ (∀ g ∈ gs, 0 ≤ g ∧ g < w.ring) ∧ F 16 [w.D, .int c] = .ok (.tup (gs.map D.int))
  llook : ∀ {w : Wk} (hw : w.ok) (c : Int) {m : Int} (hm : 0 ≤ m), ∃ l : Lk, LkOk w l ∧ F 17 [w.D, .int c, .int m] = .ok (LkD l)
  llooks : ∀ {ns : List Int} (hn : ns.length ≤ 63) {w : Wk} (hw : w.ok) {f : Int} (hf : 0 ≤ f) {most : Nat} (hmo : most ≤ 900), ∃ ls : List Lk, ls.length ≤ most ∧ (∀ l ∈ ls, LkOk w l) ∧ F 18 [.frz (ns.map D.int), w.D, .int f, .int most] = .ok (.lst (ls.map LkD))
  all : ∀ {w : Wk} (hw : w.ok) (h7 : w.parts.length ≤ 7) (t : List (Int × Int)) (br : List Int) {gs : List Int} (hl : gs.length = w.inp), F 19 [w.D, .tup (gs.map D.int), tD t, bD br] = .ok (.lst ((allI w t br 0 w.parts [gs]).map rD))
  drawn : ∀ (c : Int) {n : Nat} (hn : n ≤ 10), ∃ br : List Int, SetFrom n (-1) br ∧ F 20 [.int c, .int n] = .ok (bD br)
  shown : ∀ {w : Wk} (hw : w.ok) {l : Lk} (hl : LkOk w l) {br : List Int} (hb : SetFrom w.parts.length (-1) br) {line : Nat} (hln : line < w.inp + w.parts.length), F 8 [w.D, LkD l, bD br, .int line] = .ok (.lst ((shownI w br l line).map D.int))
  ldigits : ∀ {w : Wk} (hw : w.ok) {l : Lk} (hl : LkOk w l) {br : List Int} {line : Nat} (hln : line < w.inp + w.parts.length) (h7 : w.parts.length ≤ 7) (hrl : (rowsI w br l).length < 4000), F 21 [w.D, LkD l, bD br, .int line] = .ok (.lst ((shownI w br l line).map D.int))
theorem factsL : Facts (PyV.run T G Z 18) := ⟨@C_cell 18 (by decide), @C_mixed 18 (by decide), @C_part 18 (by decide), @C_work 18 (by decide), @C_among 18 (by decide), @C_givenof 18 (by decide), @C_due 18 (by decide), @C_whole 18 (by decide), @C_need 18 (by decide), @C_seen 18 (by decide), @C_look 18 (by decide), @C_set 18 (by decide), @C_choices 18 (by decide), @C_filled 18 (by decide), @C_lrun 18 (by decide), @C_lgiven 18 (by decide), @C_llook 18 (by decide), @C_llooks 18 (by decide), @C_all 18 (by decide), @C_drawn 18 (by decide), @C_shown 18 (by decide), @C_ldigits 18 (by decide)⟩
theorem law_b {F : Nat → List PyV.D → M PyV.D} (c : Facts F) {ns : List Int} (hn : ns.length ≤ 63) : runB ⟨F, G, Z⟩ f22 [.frz (ns.map PyV.D.int)] = .ok (.bl true) := by
  unfold f22
  obtain ⟨w, hw, h6, h4, ew⟩ := c.work hn (most := 6) (by decide) (by decide)
  have r2 := hw.r2
  have r5 := hw.r5
  have i1 := hw.i1
  have i6 := hw.i6
  have p1 := hw.p1
  have p10 := hw.p10
  have m := fun {j : Int} (h : 0 ≤ j) => c.mixed hn h
  obtain ⟨l, lok, el⟩ := c.llook hw (mixed ns 12) (m := mixed ns 13) (mixed_nn _ _)
  obtain ⟨br, bok, eb⟩ := c.drawn (mixed ns 21) (n := w.parts.length) hw.p10
  have ew : F 13 [.frz (ns.map D.int), .int 6] = .ok w.D := ew
  have pl : (0 : Int) < (w.inp : Int) + w.parts.length := by omega
  have q1 := Int.emod_nonneg (mixed ns 22) (Int.ne_of_gt pl)
  have q2 := Int.emod_lt_of_pos (mixed ns 22) pl
  have q3 := Int.emod_nonneg (mixed ns 23) (Int.ne_of_gt pl)
  have q4 := Int.emod_lt_of_pos (mixed ns 23) pl
  obtain ⟨n1, e1⟩ : ∃ n : Nat, mixed ns 22 % ((w.inp : Int) + w.parts.length) = n := ⟨(mixed ns 22 % ((w.inp : Int) + w.parts.length)).toNat, by omega⟩
  obtain ⟨n2, e2⟩ : ∃ n : Nat, mixed ns 23 % ((w.inp : Int) + w.parts.length) = n := ⟨(mixed ns 23 % ((w.inp : Int) + w.parts.length)).toNat, by omega⟩
  rw [e1] at q1 q2
  rw [e2] at q3 q4
  have hrl := rows_small (br := br) (l := l) r5 h6 (fun h => h4 h (by decide))
  have ed1 := c.ldigits hw lok (br := br) (line := n1) (by omega) (by omega) hrl
  have ed2 := c.ldigits hw lok (br := br) (line := n2) (by omega) (by omega) hrl
  have es1 := c.shown hw lok bok (line := n1) (by omega)
  have es2 := c.shown hw lok bok (line := n2) (by omega)
  have f1 := pureL_ints (shownI w br l n1)
  generalize hA : shownI w br l n1 = A at ed1 es1 f1
  generalize shownI w br l n2 = B at ed2 es2
  have la : A.length ≤ 5 := by
    rw [← hA]
    refine sortU_small r5 fun x hx => ?_
    obtain ⟨r, hr, rfl⟩ := List.mem_map.mp hx
    have e := mem_rows.mp hr
    obtain ⟨y, hy, hyl⟩ := ext_pre e
    exact dig_in (ext_in hw (fun i p hp => by rw [lok.1]; exact hw.at_ i p hp) lok.2.1 e) (by rw [hy, List.length_append, lok.1, hyl]; omega)
  refine gv_eq (gv_run (P := fun b => b = .bl true) ?_)
  (apply gv_step; focus (simp (disch := (first | trivial | omega | (simp only [true_and, and_true, lim, List.length_cons, List.length_nil, List.length_map, List.length_append] <;> first | trivial | omega) | assumption)) only [asOwn, asOwnL, runB, evSs, evS, evE, evEs, evB, evIt, isV, isNo, bind_ok, bind_ex, guard_t, env0, mk_lst, mk_dct, mk_tup, mk_frz, mk_int, mk_bl, mk_str, mk_non, el_lst, el_dct, el_tup, el_frz, el_int, el_bl, el_str, el_non, new_own, new_top, new_pl, io_own, io_top, io_pl, asB_bl, asI_int, ent_top, ent_pl, fr_own, fr_top, fr_pl, pu_int, pu_bl, pu_str, pu_non, pu_tup, pu_lst, pu_nil, pu_cons, pe_lst', no_nil, no_cons, al_nil, al_cons, od_rt, od_nx, ofO_some, d_add, d_sub, d_mul, d_div, d_mod, d_cat, d_catT, c_eqI, c_neI, c_lt, c_le, c_gt, c_ge, List.map_cons, List.map_nil, List.length_cons, List.length_nil, List.getElem?_cons_zero, List.getElem?_cons_succ, List.set_cons_zero, List.set_cons_succ, List.cons_append, List.nil_append, List.append_nil, List.replicate, Nat.reduceAdd, Nat.reduceSub, Bool.true_and, Bool.and_true, Bool.false_and, Bool.and_false, Bool.true_or, Bool.or_true, Bool.false_or, Bool.or_false, Bool.not_true, Bool.not_false, if_true, if_false, Bool.false_eq_true, reduceIte, ew, mk_w]; exact rfl))
  (apply gv_step; focus (simp (disch := (first | trivial | omega | (simp only [true_and, and_true, lim, List.length_cons, List.length_nil, List.length_map, List.length_append] <;> first | trivial | omega) | assumption)) only [asOwn, asOwnL, runB, evSs, evS, evE, evEs, evB, evIt, isV, isNo, bind_ok, bind_ex, guard_t, env0, mk_lst, mk_dct, mk_tup, mk_frz, mk_int, mk_bl, mk_str, mk_non, el_lst, el_dct, el_tup, el_frz, el_int, el_bl, el_str, el_non, new_own, new_top, new_pl, io_own, io_top, io_pl, asB_bl, asI_int, ent_top, ent_pl, fr_own, fr_top, fr_pl, pu_int, pu_bl, pu_str, pu_non, pu_tup, pu_lst, pu_nil, pu_cons, pe_lst', no_nil, no_cons, al_nil, al_cons, od_rt, od_nx, ofO_some, d_add, d_sub, d_mul, d_div, d_mod, d_cat, d_catT, c_eqI, c_neI, c_lt, c_le, c_gt, c_ge, List.map_cons, List.map_nil, List.length_cons, List.length_nil, List.getElem?_cons_zero, List.getElem?_cons_succ, List.set_cons_zero, List.set_cons_succ, List.cons_append, List.nil_append, List.append_nil, List.replicate, Nat.reduceAdd, Nat.reduceSub, Bool.true_and, Bool.and_true, Bool.false_and, Bool.and_false, Bool.true_or, Bool.or_true, Bool.false_or, Bool.or_false, Bool.not_true, Bool.not_false, if_true, if_false, Bool.false_eq_true, reduceIte, ixw1, ixw2, len_lst, List.length_map]; exact rfl))
  (apply gv_step; focus (simp (disch := (first | trivial | omega | (simp only [true_and, and_true, lim, List.length_cons, List.length_nil, List.length_map, List.length_append] <;> first | trivial | omega) | assumption)) only [asOwn, asOwnL, runB, evSs, evS, evE, evEs, evB, evIt, isV, isNo, bind_ok, bind_ex, guard_t, env0, mk_lst, mk_dct, mk_tup, mk_frz, mk_int, mk_bl, mk_str, mk_non, el_lst, el_dct, el_tup, el_frz, el_int, el_bl, el_str, el_non, new_own, new_top, new_pl, io_own, io_top, io_pl, asB_bl, asI_int, ent_top, ent_pl, fr_own, fr_top, fr_pl, pu_int, pu_bl, pu_str, pu_non, pu_tup, pu_lst, pu_nil, pu_cons, pe_lst', no_nil, no_cons, al_nil, al_cons, od_rt, od_nx, ofO_some, d_add, d_sub, d_mul, d_div, d_mod, d_cat, d_catT, c_eqI, c_neI, c_lt, c_le, c_gt, c_ge, List.map_cons, List.map_nil, List.length_cons, List.length_nil, List.getElem?_cons_zero, List.getElem?_cons_succ, List.set_cons_zero, List.set_cons_succ, List.cons_append, List.nil_append, List.append_nil, List.replicate, Nat.reduceAdd, Nat.reduceSub, Bool.true_and, Bool.and_true, Bool.false_and, Bool.and_false, Bool.true_or, Bool.or_true, Bool.false_or, Bool.or_false, Bool.not_true, Bool.not_false, if_true, if_false, Bool.false_eq_true, reduceIte, m, el, mk_l]; exact rfl))
  (apply gv_step; focus (simp (disch := (first | trivial | omega | (simp only [true_and, and_true, lim, List.length_cons, List.length_nil, List.length_map, List.length_append] <;> first | trivial | omega) | assumption)) only [asOwn, asOwnL, runB, evSs, evS, evE, evEs, evB, evIt, isV, isNo, bind_ok, bind_ex, guard_t, env0, mk_lst, mk_dct, mk_tup, mk_frz, mk_int, mk_bl, mk_str, mk_non, el_lst, el_dct, el_tup, el_frz, el_int, el_bl, el_str, el_non, new_own, new_top, new_pl, io_own, io_top, io_pl, asB_bl, asI_int, ent_top, ent_pl, fr_own, fr_top, fr_pl, pu_int, pu_bl, pu_str, pu_non, pu_tup, pu_lst, pu_nil, pu_cons, pe_lst', no_nil, no_cons, al_nil, al_cons, od_rt, od_nx, ofO_some, d_add, d_sub, d_mul, d_div, d_mod, d_cat, d_catT, c_eqI, c_neI, c_lt, c_le, c_gt, c_ge, List.map_cons, List.map_nil, List.length_cons, List.length_nil, List.getElem?_cons_zero, List.getElem?_cons_succ, List.set_cons_zero, List.set_cons_succ, List.cons_append, List.nil_append, List.append_nil, List.replicate, Nat.reduceAdd, Nat.reduceSub, Bool.true_and, Bool.and_true, Bool.false_and, Bool.and_false, Bool.true_or, Bool.or_true, Bool.false_or, Bool.or_false, Bool.not_true, Bool.not_false, if_true, if_false, Bool.false_eq_true, reduceIte, m, ixw2, len_lst, List.length_map, eb, mk_b]; exact rfl))
  (apply gv_step; focus (simp (disch := (first | trivial | omega | (simp only [true_and, and_true, lim, List.length_cons, List.length_nil, List.length_map, List.length_append] <;> first | trivial | omega) | assumption)) only [asOwn, asOwnL, runB, evSs, evS, evE, evEs, evB, evIt, isV, isNo, bind_ok, bind_ex, guard_t, env0, mk_lst, mk_dct, mk_tup, mk_frz, mk_int, mk_bl, mk_str, mk_non, el_lst, el_dct, el_tup, el_frz, el_int, el_bl, el_str, el_non, new_own, new_top, new_pl, io_own, io_top, io_pl, asB_bl, asI_int, ent_top, ent_pl, fr_own, fr_top, fr_pl, pu_int, pu_bl, pu_str, pu_non, pu_tup, pu_lst, pu_nil, pu_cons, pe_lst', no_nil, no_cons, al_nil, al_cons, od_rt, od_nx, ofO_some, d_add, d_sub, d_mul, d_div, d_mod, d_cat, d_catT, c_eqI, c_neI, c_lt, c_le, c_gt, c_ge, List.map_cons, List.map_nil, List.length_cons, List.length_nil, List.getElem?_cons_zero, List.getElem?_cons_succ, List.set_cons_zero, List.set_cons_succ, List.cons_append, List.nil_append, List.append_nil, List.replicate, Nat.reduceAdd, Nat.reduceSub, Bool.true_and, Bool.and_true, Bool.false_and, Bool.and_false, Bool.true_or, Bool.or_true, Bool.false_or, Bool.or_false, Bool.not_true, Bool.not_false, if_true, if_false, Bool.false_eq_true, reduceIte, m, e1]; exact rfl))
  (apply gv_step; focus (simp (disch := (first | trivial | omega | (simp only [true_and, and_true, lim, List.length_cons, List.length_nil, List.length_map, List.length_append] <;> first | trivial | omega) | assumption)) only [asOwn, asOwnL, runB, evSs, evS, evE, evEs, evB, evIt, isV, isNo, bind_ok, bind_ex, guard_t, env0, mk_lst, mk_dct, mk_tup, mk_frz, mk_int, mk_bl, mk_str, mk_non, el_lst, el_dct, el_tup, el_frz, el_int, el_bl, el_str, el_non, new_own, new_top, new_pl, io_own, io_top, io_pl, asB_bl, asI_int, ent_top, ent_pl, fr_own, fr_top, fr_pl, pu_int, pu_bl, pu_str, pu_non, pu_tup, pu_lst, pu_nil, pu_cons, pe_lst', no_nil, no_cons, al_nil, al_cons, od_rt, od_nx, ofO_some, d_add, d_sub, d_mul, d_div, d_mod, d_cat, d_catT, c_eqI, c_neI, c_lt, c_le, c_gt, c_ge, List.map_cons, List.map_nil, List.length_cons, List.length_nil, List.getElem?_cons_zero, List.getElem?_cons_succ, List.set_cons_zero, List.set_cons_succ, List.cons_append, List.nil_append, List.append_nil, List.replicate, Nat.reduceAdd, Nat.reduceSub, Bool.true_and, Bool.and_true, Bool.false_and, Bool.and_false, Bool.true_or, Bool.or_true, Bool.false_or, Bool.or_false, Bool.not_true, Bool.not_false, if_true, if_false, Bool.false_eq_true, reduceIte, m, e2]; exact rfl))
  (apply gv_step; focus (simp (disch := (first | trivial | omega | (simp only [true_and, and_true, lim, List.length_cons, List.length_nil, List.length_map, List.length_append] <;> first | trivial | omega) | assumption)) only [asOwn, asOwnL, runB, evSs, evS, evE, evEs, evB, evIt, isV, isNo, bind_ok, bind_ex, guard_t, env0, mk_lst, mk_dct, mk_tup, mk_frz, mk_int, mk_bl, mk_str, mk_non, el_lst, el_dct, el_tup, el_frz, el_int, el_bl, el_str, el_non, new_own, new_top, new_pl, io_own, io_top, io_pl, asB_bl, asI_int, ent_top, ent_pl, fr_own, fr_top, fr_pl, pu_int, pu_bl, pu_str, pu_non, pu_tup, pu_lst, pu_nil, pu_cons, pe_lst', no_nil, no_cons, al_nil, al_cons, od_rt, od_nx, ofO_some, d_add, d_sub, d_mul, d_div, d_mod, d_cat, d_catT, c_eqI, c_neI, c_lt, c_le, c_gt, c_ge, List.map_cons, List.map_nil, List.length_cons, List.length_nil, List.getElem?_cons_zero, List.getElem?_cons_succ, List.set_cons_zero, List.set_cons_succ, List.cons_append, List.nil_append, List.append_nil, List.replicate, Nat.reduceAdd, Nat.reduceSub, Bool.true_and, Bool.and_true, Bool.false_and, Bool.and_false, Bool.true_or, Bool.or_true, Bool.false_or, Bool.or_false, Bool.not_true, Bool.not_false, if_true, if_false, Bool.false_eq_true, reduceIte, ed1]; exact rfl))
  (apply gv_step; focus (simp (disch := (first | trivial | omega | (simp only [true_and, and_true, lim, List.length_cons, List.length_nil, List.length_map, List.length_append] <;> first | trivial | omega) | assumption)) only [asOwn, asOwnL, runB, evSs, evS, evE, evEs, evB, evIt, isV, isNo, bind_ok, bind_ex, guard_t, env0, mk_lst, mk_dct, mk_tup, mk_frz, mk_int, mk_bl, mk_str, mk_non, el_lst, el_dct, el_tup, el_frz, el_int, el_bl, el_str, el_non, new_own, new_top, new_pl, io_own, io_top, io_pl, asB_bl, asI_int, ent_top, ent_pl, fr_own, fr_top, fr_pl, pu_int, pu_bl, pu_str, pu_non, pu_tup, pu_lst, pu_nil, pu_cons, pe_lst', no_nil, no_cons, al_nil, al_cons, od_rt, od_nx, ofO_some, d_add, d_sub, d_mul, d_div, d_mod, d_cat, d_catT, c_eqI, c_neI, c_lt, c_le, c_gt, c_ge, List.map_cons, List.map_nil, List.length_cons, List.length_nil, List.getElem?_cons_zero, List.getElem?_cons_succ, List.set_cons_zero, List.set_cons_succ, List.cons_append, List.nil_append, List.append_nil, List.replicate, Nat.reduceAdd, Nat.reduceSub, Bool.true_and, Bool.and_true, Bool.false_and, Bool.and_false, Bool.true_or, Bool.or_true, Bool.false_or, Bool.or_false, Bool.not_true, Bool.not_false, if_true, if_false, Bool.false_eq_true, reduceIte, es1]; exact rfl))
  have na : dCmp .NotEq (.lst (A.map D.int)) (.lst (A.map D.int)) = .ok (.bl false) := c_ne_self (nice_lints A)
  have ea : dCmp .Eq (.lst (A.map D.int)) (.lst (A.map D.int)) = .ok (.bl true) := c_eq_self (nice_lints A)
  have nb : dCmp .NotEq (.lst (B.map D.int)) (.lst (B.map D.int)) = .ok (.bl false) := c_ne_self (nice_lints B)
  have eqb : dCmp .Eq (.lst (B.map D.int)) (.lst (B.map D.int)) = .ok (.bl true) := c_eq_self (nice_lints B)
  apply gv_step
  · refine if_f (k := .pl true) (or_f (k := .pl true) ?_ (or_f (k := .pl true) ?_ (or_1 (cmp_ev (k1 := .top true) (x := .lst []) ?_ lnil_ev ne_nil0)))) seq_nil
    · have := isi_ll (A.map D.int)
      simp (disch := (first | trivial | omega | (simp only [true_and, and_true, lim, List.length_cons, List.length_nil, List.length_map, List.length_append] <;> first | trivial | omega) | assumption)) only [asOwn, asOwnL, runB, evSs, evS, evE, evEs, evB, evIt, isV, isNo, bind_ok, bind_ex, guard_t, env0, mk_lst, mk_dct, mk_tup, mk_frz, mk_int, mk_bl, mk_str, mk_non, el_lst, el_dct, el_tup, el_frz, el_int, el_bl, el_str, el_non, new_own, new_top, new_pl, io_own, io_top, io_pl, asB_bl, asI_int, ent_top, ent_pl, fr_own, fr_top, fr_pl, pu_int, pu_bl, pu_str, pu_non, pu_tup, pu_lst, pu_nil, pu_cons, pe_lst', no_nil, no_cons, al_nil, al_cons, od_rt, od_nx, ofO_some, d_add, d_sub, d_mul, d_div, d_mod, d_cat, d_catT, c_eqI, c_neI, c_lt, c_le, c_gt, c_ge, List.map_cons, List.map_nil, List.length_cons, List.length_nil, List.getElem?_cons_zero, List.getElem?_cons_succ, List.set_cons_zero, List.set_cons_succ, List.cons_append, List.nil_append, List.append_nil, List.replicate, Nat.reduceAdd, Nat.reduceSub, Bool.true_and, Bool.and_true, Bool.false_and, Bool.and_false, Bool.true_or, Bool.or_true, Bool.false_or, Bool.or_false, Bool.not_true, Bool.not_false, if_true, if_false, Bool.false_eq_true, reduceIte, this]
    · simp (disch := (first | trivial | omega | (simp only [true_and, and_true, lim, List.length_cons, List.length_nil, List.length_map, List.length_append] <;> first | trivial | omega) | assumption)) only [asOwn, asOwnL, runB, evSs, evS, evE, evEs, evB, evIt, isV, isNo, bind_ok, bind_ex, guard_t, env0, mk_lst, mk_dct, mk_tup, mk_frz, mk_int, mk_bl, mk_str, mk_non, el_lst, el_dct, el_tup, el_frz, el_int, el_bl, el_str, el_non, new_own, new_top, new_pl, io_own, io_top, io_pl, asB_bl, asI_int, ent_top, ent_pl, fr_own, fr_top, fr_pl, pu_int, pu_bl, pu_str, pu_non, pu_tup, pu_lst, pu_nil, pu_cons, pe_lst', no_nil, no_cons, al_nil, al_cons, od_rt, od_nx, ofO_some, d_add, d_sub, d_mul, d_div, d_mod, d_cat, d_catT, c_eqI, c_neI, c_lt, c_le, c_gt, c_ge, List.map_cons, List.map_nil, List.length_cons, List.length_nil, List.getElem?_cons_zero, List.getElem?_cons_succ, List.set_cons_zero, List.set_cons_succ, List.cons_append, List.nil_append, List.append_nil, List.replicate, Nat.reduceAdd, Nat.reduceSub, Bool.true_and, Bool.and_true, Bool.false_and, Bool.and_false, Bool.true_or, Bool.or_true, Bool.false_or, Bool.or_false, Bool.not_true, Bool.not_false, if_true, if_false, Bool.false_eq_true, reduceIte, na]
    · rw [lc_sq (kd := .own) (x := .lst (A.map D.int)) (xs := A.map D.int) (rs := []) (by simp (disch := (first | trivial | omega | (simp only [true_and, and_true, lim, List.length_cons, List.length_nil, List.length_map, List.length_append] <;> first | trivial | omega) | assumption)) only [asOwn, asOwnL, runB, evSs, evS, evE, evEs, evB, evIt, isV, isNo, bind_ok, bind_ex, guard_t, env0, mk_lst, mk_dct, mk_tup, mk_frz, mk_int, mk_bl, mk_str, mk_non, el_lst, el_dct, el_tup, el_frz, el_int, el_bl, el_str, el_non, new_own, new_top, new_pl, io_own, io_top, io_pl, asB_bl, asI_int, ent_top, ent_pl, fr_own, fr_top, fr_pl, pu_int, pu_bl, pu_str, pu_non, pu_tup, pu_lst, pu_nil, pu_cons, pe_lst', no_nil, no_cons, al_nil, al_cons, od_rt, od_nx, ofO_some, d_add, d_sub, d_mul, d_div, d_mod, d_cat, d_catT, c_eqI, c_neI, c_lt, c_le, c_gt, c_ge, List.map_cons, List.map_nil, List.length_cons, List.length_nil, List.getElem?_cons_zero, List.getElem?_cons_succ, List.set_cons_zero, List.set_cons_succ, List.cons_append, List.nil_append, List.append_nil, List.replicate, Nat.reduceAdd, Nat.reduceSub, Bool.true_and, Bool.and_true, Bool.false_and, Bool.and_false, Bool.true_or, Bool.or_true, Bool.false_or, Bool.or_false, Bool.not_true, Bool.not_false, if_true, if_false, Bool.false_eq_true, reduceIte]) rfl (by rw [List.length_map]; omega) rfl rfl (compM_none fun x hx => by
        obtain ⟨i, _, rfl⟩ := List.mem_map.mp hx
        have hw1 := c.whole i
        simp (disch := (first | trivial | omega | (simp only [true_and, and_true, lim, List.length_cons, List.length_nil, List.length_map, List.length_append] <;> first | trivial | omega) | assumption)) only [asOwn, asOwnL, runB, evSs, evS, evE, evEs, evB, evIt, isV, isNo, bind_ok, bind_ex, guard_t, env0, mk_lst, mk_dct, mk_tup, mk_frz, mk_int, mk_bl, mk_str, mk_non, el_lst, el_dct, el_tup, el_frz, el_int, el_bl, el_str, el_non, new_own, new_top, new_pl, io_own, io_top, io_pl, asB_bl, asI_int, ent_top, ent_pl, fr_own, fr_top, fr_pl, pu_int, pu_bl, pu_str, pu_non, pu_tup, pu_lst, pu_nil, pu_cons, pe_lst', no_nil, no_cons, al_nil, al_cons, od_rt, od_nx, ofO_some, d_add, d_sub, d_mul, d_div, d_mod, d_cat, d_catT, c_eqI, c_neI, c_lt, c_le, c_gt, c_ge, List.map_cons, List.map_nil, List.length_cons, List.length_nil, List.getElem?_cons_zero, List.getElem?_cons_succ, List.set_cons_zero, List.set_cons_succ, List.cons_append, List.nil_append, List.append_nil, List.replicate, Nat.reduceAdd, Nat.reduceSub, Bool.true_and, Bool.and_true, Bool.false_and, Bool.and_false, Bool.true_or, Bool.or_true, Bool.false_or, Bool.or_false, Bool.not_true, Bool.not_false, if_true, if_false, Bool.false_eq_true, reduceIte, bindT_1, setE_int, wipe_1, hw1])]
      rfl
  (apply gv_step; focus (simp (disch := (first | trivial | omega | (simp only [true_and, and_true, lim, List.length_cons, List.length_nil, List.length_map, List.length_append] <;> first | trivial | omega) | assumption)) only [asOwn, asOwnL, runB, evSs, evS, evE, evEs, evB, evIt, isV, isNo, bind_ok, bind_ex, guard_t, env0, mk_lst, mk_dct, mk_tup, mk_frz, mk_int, mk_bl, mk_str, mk_non, el_lst, el_dct, el_tup, el_frz, el_int, el_bl, el_str, el_non, new_own, new_top, new_pl, io_own, io_top, io_pl, asB_bl, asI_int, ent_top, ent_pl, fr_own, fr_top, fr_pl, pu_int, pu_bl, pu_str, pu_non, pu_tup, pu_lst, pu_nil, pu_cons, pe_lst', no_nil, no_cons, al_nil, al_cons, od_rt, od_nx, ofO_some, d_add, d_sub, d_mul, d_div, d_mod, d_cat, d_catT, c_eqI, c_neI, c_lt, c_le, c_gt, c_ge, List.map_cons, List.map_nil, List.length_cons, List.length_nil, List.getElem?_cons_zero, List.getElem?_cons_succ, List.set_cons_zero, List.set_cons_succ, List.cons_append, List.nil_append, List.append_nil, List.replicate, Nat.reduceAdd, Nat.reduceSub, Bool.true_and, Bool.and_true, Bool.false_and, Bool.and_false, Bool.true_or, Bool.or_true, Bool.false_or, Bool.or_false, Bool.not_true, Bool.not_false, if_true, if_false, Bool.false_eq_true, reduceIte, es2]; exact rfl))
  apply gv_step
  · refine if_f (k := .pl true) ?_ seq_nil
    simp (disch := (first | trivial | omega | (simp only [true_and, and_true, lim, List.length_cons, List.length_nil, List.length_map, List.length_append] <;> first | trivial | omega) | assumption)) only [asOwn, asOwnL, runB, evSs, evS, evE, evEs, evB, evIt, isV, isNo, bind_ok, bind_ex, guard_t, env0, mk_lst, mk_dct, mk_tup, mk_frz, mk_int, mk_bl, mk_str, mk_non, el_lst, el_dct, el_tup, el_frz, el_int, el_bl, el_str, el_non, new_own, new_top, new_pl, io_own, io_top, io_pl, asB_bl, asI_int, ent_top, ent_pl, fr_own, fr_top, fr_pl, pu_int, pu_bl, pu_str, pu_non, pu_tup, pu_lst, pu_nil, pu_cons, pe_lst', no_nil, no_cons, al_nil, al_cons, od_rt, od_nx, ofO_some, d_add, d_sub, d_mul, d_div, d_mod, d_cat, d_catT, c_eqI, c_neI, c_lt, c_le, c_gt, c_ge, List.map_cons, List.map_nil, List.length_cons, List.length_nil, List.getElem?_cons_zero, List.getElem?_cons_succ, List.set_cons_zero, List.set_cons_succ, List.cons_append, List.nil_append, List.append_nil, List.replicate, Nat.reduceAdd, Nat.reduceSub, Bool.true_and, Bool.and_true, Bool.false_and, Bool.and_false, Bool.true_or, Bool.or_true, Bool.false_or, Bool.or_false, Bool.not_true, Bool.not_false, if_true, if_false, Bool.false_eq_true, reduceIte, ed2, nb, na]
  apply gv_step
  · have hl2 : (A.map D.int).length < 1000000 := by rw [List.length_map]; omega
    have hl3 : A.length < 1000000 := by omega
    simp (disch := (first | trivial | omega | (simp only [true_and, and_true, lim, List.length_cons, List.length_nil, List.length_map, List.length_append] <;> first | trivial | omega) | assumption)) only [asOwn, asOwnL, runB, evSs, evS, evE, evEs, evB, evIt, isV, isNo, bind_ok, bind_ex, guard_t, env0, mk_lst, mk_dct, mk_tup, mk_frz, mk_int, mk_bl, mk_str, mk_non, el_lst, el_dct, el_tup, el_frz, el_int, el_bl, el_str, el_non, new_own, new_top, new_pl, io_own, io_top, io_pl, asB_bl, asI_int, ent_top, ent_pl, fr_own, fr_top, fr_pl, pu_int, pu_bl, pu_str, pu_non, pu_tup, pu_lst, pu_nil, pu_cons, pe_lst', no_nil, no_cons, al_nil, al_cons, od_rt, od_nx, ofO_some, d_add, d_sub, d_mul, d_div, d_mod, d_cat, d_catT, c_eqI, c_neI, c_lt, c_le, c_gt, c_ge, List.map_cons, List.map_nil, List.length_cons, List.length_nil, List.getElem?_cons_zero, List.getElem?_cons_succ, List.set_cons_zero, List.set_cons_succ, List.cons_append, List.nil_append, List.append_nil, List.replicate, Nat.reduceAdd, Nat.reduceSub, Bool.true_and, Bool.and_true, Bool.false_and, Bool.and_false, Bool.true_or, Bool.or_true, Bool.false_or, Bool.or_false, Bool.not_true, Bool.not_false, if_true, if_false, Bool.false_eq_true, reduceIte]
    exact rfl
  (apply gv_step; focus (simp (disch := (first | trivial | omega | (simp only [true_and, and_true, lim, List.length_cons, List.length_nil, List.length_map, List.length_append] <;> first | trivial | omega) | assumption)) only [asOwn, asOwnL, runB, evSs, evS, evE, evEs, evB, evIt, isV, isNo, bind_ok, bind_ex, guard_t, env0, mk_lst, mk_dct, mk_tup, mk_frz, mk_int, mk_bl, mk_str, mk_non, el_lst, el_dct, el_tup, el_frz, el_int, el_bl, el_str, el_non, new_own, new_top, new_pl, io_own, io_top, io_pl, asB_bl, asI_int, ent_top, ent_pl, fr_own, fr_top, fr_pl, pu_int, pu_bl, pu_str, pu_non, pu_tup, pu_lst, pu_nil, pu_cons, pe_lst', no_nil, no_cons, al_nil, al_cons, od_rt, od_nx, ofO_some, d_add, d_sub, d_mul, d_div, d_mod, d_cat, d_catT, c_eqI, c_neI, c_lt, c_le, c_gt, c_ge, List.map_cons, List.map_nil, List.length_cons, List.length_nil, List.getElem?_cons_zero, List.getElem?_cons_succ, List.set_cons_zero, List.set_cons_succ, List.cons_append, List.nil_append, List.append_nil, List.replicate, Nat.reduceAdd, Nat.reduceSub, Bool.true_and, Bool.and_true, Bool.false_and, Bool.and_false, Bool.true_or, Bool.or_true, Bool.false_or, Bool.or_false, Bool.not_true, Bool.not_false, if_true, if_false, Bool.false_eq_true, reduceIte, es1]; exact rfl))
  refine gv_rt (d := .bl true) ?_ ⟨_, rfl, rfl⟩
  have hl2 : (A.map D.int).length + 1 ≤ 1000000 := by rw [List.length_map]; omega
  have hl3 : A.length + 1 ≤ 1000000 := by omega
  have ea2 : dCmp .Eq (.lst (A.map D.int ++ [.int 0])) (.lst (A.map D.int ++ [.int 0])) = .ok (.bl true) := by
    have := c_eq_self (nice_lints (A ++ [0]))
    simpa using this
  simp (disch := (first | trivial | omega | (simp only [true_and, and_true, lim, List.length_cons, List.length_nil, List.length_map, List.length_append] <;> first | trivial | omega) | assumption)) only [asOwn, asOwnL, runB, evSs, evS, evE, evEs, evB, evIt, isV, isNo, bind_ok, bind_ex, guard_t, env0, mk_lst, mk_dct, mk_tup, mk_frz, mk_int, mk_bl, mk_str, mk_non, el_lst, el_dct, el_tup, el_frz, el_int, el_bl, el_str, el_non, new_own, new_top, new_pl, io_own, io_top, io_pl, asB_bl, asI_int, ent_top, ent_pl, fr_own, fr_top, fr_pl, pu_int, pu_bl, pu_str, pu_non, pu_tup, pu_lst, pu_nil, pu_cons, pe_lst', no_nil, no_cons, al_nil, al_cons, od_rt, od_nx, ofO_some, d_add, d_sub, d_mul, d_div, d_mod, d_cat, d_catT, c_eqI, c_neI, c_lt, c_le, c_gt, c_ge, List.map_cons, List.map_nil, List.length_cons, List.length_nil, List.getElem?_cons_zero, List.getElem?_cons_succ, List.set_cons_zero, List.set_cons_succ, List.cons_append, List.nil_append, List.append_nil, List.replicate, Nat.reduceAdd, Nat.reduceSub, Bool.true_and, Bool.and_true, Bool.false_and, Bool.and_false, Bool.true_or, Bool.or_true, Bool.false_or, Bool.or_false, Bool.not_true, Bool.not_false, if_true, if_false, Bool.false_eq_true, reduceIte, ea, ea2, eqb, ed2]
theorem law_ok (ns : List Int) (hn : ns.length ≤ 63) : PyV.run T G Z 19 22 [.frz (ns.map PyV.D.int)] = .ok (.bl true) := law_b factsL hn
def top (i : Nat) : Stmt := PySem.Challenge.pw_whichbroke_k09_what_a_line_may_show.main.body.getD i (.Pass ⟨0, 0, 0, 0⟩)
def n0 : List Str := ["thing", "least", "most"]
def p0 : List Str := ["thing", "least", "most"]
def n1 : List Str := ["part", "digits", "ring", "first", "other"]
def p1 : List Str := ["part", "digits", "ring"]
def n2 : List Str := ["work", "thing", "digit"]
def p2 : List Str := ["work", "thing"]
def n3 : List Str := ["work", "thing", "ahead", "pair"]
def p3 : List Str := ["work", "thing"]
def n4 : List Str := ["work", "thing"]
def p4 : List Str := ["work", "thing"]
def n5 : List Str := ["work", "thing", "ahead", "part"]
def p5 : List Str := ["work", "thing"]
def n6 : List Str := ["work", "digits", "broken", "place"]
def p6 : List Str := ["work", "digits", "broken", "place"]
def n7 : List Str := ["work", "digits", "seen", "broken", "line", "place", "digit", "found"]
def p7 : List Str := ["work", "digits", "seen", "broken"]
def n8 : List Str := ["work", "look", "broken", "line", "found", "digit", "seen"]
def p8 : List Str := ["work", "look", "broken", "line"]
def n9 : List Str := ["_law_script", "_law_k"]
def p9 : List Str := ["_law_script", "_law_k"]
def n10 : List Str := ["_law_script", "_law_k"]
def p10 : List Str := ["_law_script", "_law_k"]
def n11 : List Str := ["_law_thing"]
def p11 : List Str := ["_law_thing"]
def n12 : List Str := ["_law_cell_here", "_law_lines", "_law_word", "_law_taken", "_law_k", "_law_near"]
def p12 : List Str := ["_law_cell_here", "_law_lines"]
def n13 : List Str := ["_law_script", "_law_most", "_law_first", "_law_ring", "_law_inputs", "_law_many", "_law_parts", "_law_k"]
def p13 : List Str := ["_law_script", "_law_most"]
def n14 : List Str := ["_law_part_here", "_law_digits_here", "_law_ring", "_law_first"]
def p14 : List Str := ["_law_part_here", "_law_digits_here", "_law_ring"]
def n15 : List Str := ["_law_work_here", "_law_given_here", "_law_told", "_law_digits_here", "_law_k"]
def p15 : List Str := ["_law_work_here", "_law_given_here", "_law_told"]
def n16 : List Str := ["_law_work_here", "_law_cell_here", "_law_some", "_law_k"]
def p16 : List Str := ["_law_work_here", "_law_cell_here"]
def n17 : List Str := ["_law_work_here", "_law_cell_here", "_law_more", "_law_given_here", "_law_many", "_law_told", "_law_k", "_law_digits_here", "_law_seen", "_law_place", "_law_is_seen", "_law_digit"]
def p17 : List Str := ["_law_work_here", "_law_cell_here", "_law_more"]
def n18 : List Str := ["_law_script", "_law_work_here", "_law_first", "_law_most", "_law_found", "_law_k", "_law_cell_here", "_law_more"]
def p18 : List Str := ["_law_script", "_law_work_here", "_law_first", "_law_most"]
def n19 : List Str := ["_law_work_here", "_law_given_here", "_law_seen", "_law_broken", "_law_rows", "_law_k", "_law_line", "_law_more", "_law_row", "_law_digits_here", "_law_digit"]
def p19 : List Str := ["_law_work_here", "_law_given_here", "_law_seen", "_law_broken"]
def n20 : List Str := ["_law_cell_here", "_law_many", "_law_some", "_law_part_here"]
def p20 : List Str := ["_law_cell_here", "_law_many"]
def n21 : List Str := ["_law_work_here", "_law_look_here", "_law_broken", "_law_line", "_law_rows", "_law_row"]
def p21 : List Str := ["_law_work_here", "_law_look_here", "_law_broken", "_law_line"]
def n22 : List Str := ["_law_script", "_law_work_here", "_law_lines", "_law_look_here", "_law_broken", "_law_line", "_law_other", "_law_due_here", "_law_found", "_law_second", "_law_again", "_law_one"]
def p22 : List Str := ["_law_script"]
theorem c0 : chkSs n0 (defScope (top 7)) nm f0.body (defBody (top 7)) = true := by decide +kernel
theorem s0 : FnScope n0 p0 (defScope (top 7)) := ⟨rfl, rfl, rfl, by decide +kernel, rfl, by decide +kernel, by decide +kernel⟩
theorem c1 : chkSs n1 (defScope (top 8)) nm f1.body (defBody (top 8)) = true := by decide +kernel
theorem s1 : FnScope n1 p1 (defScope (top 8)) := ⟨rfl, rfl, rfl, by decide +kernel, rfl, by decide +kernel, by decide +kernel⟩
theorem c2 : chkSs n2 (defScope (top 9)) nm f2.body (defBody (top 9)) = true := by decide +kernel
theorem s2 : FnScope n2 p2 (defScope (top 9)) := ⟨rfl, rfl, rfl, by decide +kernel, rfl, by decide +kernel, by decide +kernel⟩
theorem c3 : chkSs n3 (defScope (top 10)) nm f3.body (defBody (top 10)) = true := by decide +kernel
theorem s3 : FnScope n3 p3 (defScope (top 10)) := ⟨rfl, rfl, rfl, by decide +kernel, rfl, by decide +kernel, by decide +kernel⟩
theorem c4 : chkSs n4 (defScope (top 11)) nm f4.body (defBody (top 11)) = true := by decide +kernel
theorem s4 : FnScope n4 p4 (defScope (top 11)) := ⟨rfl, rfl, rfl, by decide +kernel, rfl, by decide +kernel, by decide +kernel⟩
theorem c5 : chkSs n5 (defScope (top 12)) nm f5.body (defBody (top 12)) = true := by decide +kernel
theorem s5 : FnScope n5 p5 (defScope (top 12)) := ⟨rfl, rfl, rfl, by decide +kernel, rfl, by decide +kernel, by decide +kernel⟩
theorem c6 : chkSs n6 (defScope (top 14)) nm f6.body (defBody (top 14)) = true := by decide +kernel
theorem s6 : FnScope n6 p6 (defScope (top 14)) := ⟨rfl, rfl, rfl, by decide +kernel, rfl, by decide +kernel, by decide +kernel⟩
theorem c7 : chkSs n7 (defScope (top 15)) nm f7.body (defBody (top 15)) = true := by decide +kernel
theorem s7 : FnScope n7 p7 (defScope (top 15)) := ⟨rfl, rfl, rfl, by decide +kernel, rfl, by decide +kernel, by decide +kernel⟩
theorem c8 : chkSs n8 (defScope (top 16)) nm f8.body (defBody (top 16)) = true := by decide +kernel
theorem s8 : FnScope n8 p8 (defScope (top 16)) := ⟨rfl, rfl, rfl, by decide +kernel, rfl, by decide +kernel, by decide +kernel⟩
theorem c9 : chkSs n9 (defScope (top 18)) nm f9.body (defBody (top 18)) = true := by decide +kernel
theorem s9 : FnScope n9 p9 (defScope (top 18)) := ⟨rfl, rfl, rfl, by decide +kernel, rfl, by decide +kernel, by decide +kernel⟩
theorem c10 : chkSs n10 (defScope (top 19)) nm f10.body (defBody (top 19)) = true := by decide +kernel
theorem s10 : FnScope n10 p10 (defScope (top 19)) := ⟨rfl, rfl, rfl, by decide +kernel, rfl, by decide +kernel, by decide +kernel⟩
theorem c11 : chkSs n11 (defScope (top 20)) nm f11.body (defBody (top 20)) = true := by decide +kernel
theorem s11 : FnScope n11 p11 (defScope (top 20)) := ⟨rfl, rfl, rfl, by decide +kernel, rfl, by decide +kernel, by decide +kernel⟩
theorem c12 : chkSs n12 (defScope (top 21)) nm f12.body (defBody (top 21)) = true := by decide +kernel
theorem s12 : FnScope n12 p12 (defScope (top 21)) := ⟨rfl, rfl, rfl, by decide +kernel, rfl, by decide +kernel, by decide +kernel⟩
theorem c13 : chkSs n13 (defScope (top 22)) nm f13.body (defBody (top 22)) = true := by decide +kernel
theorem s13 : FnScope n13 p13 (defScope (top 22)) := ⟨rfl, rfl, rfl, by decide +kernel, rfl, by decide +kernel, by decide +kernel⟩
theorem c14 : chkSs n14 (defScope (top 23)) nm f14.body (defBody (top 23)) = true := by decide +kernel
theorem s14 : FnScope n14 p14 (defScope (top 23)) := ⟨rfl, rfl, rfl, by decide +kernel, rfl, by decide +kernel, by decide +kernel⟩
theorem c15 : chkSs n15 (defScope (top 24)) nm f15.body (defBody (top 24)) = true := by decide +kernel
theorem s15 : FnScope n15 p15 (defScope (top 24)) := ⟨rfl, rfl, rfl, by decide +kernel, rfl, by decide +kernel, by decide +kernel⟩
theorem c16 : chkSs n16 (defScope (top 25)) nm f16.body (defBody (top 25)) = true := by decide +kernel
theorem s16 : FnScope n16 p16 (defScope (top 25)) := ⟨rfl, rfl, rfl, by decide +kernel, rfl, by decide +kernel, by decide +kernel⟩
theorem c17 : chkSs n17 (defScope (top 26)) nm f17.body (defBody (top 26)) = true := by decide +kernel
theorem s17 : FnScope n17 p17 (defScope (top 26)) := ⟨rfl, rfl, rfl, by decide +kernel, rfl, by decide +kernel, by decide +kernel⟩
theorem c18 : chkSs n18 (defScope (top 27)) nm f18.body (defBody (top 27)) = true := by decide +kernel
theorem s18 : FnScope n18 p18 (defScope (top 27)) := ⟨rfl, rfl, rfl, by decide +kernel, rfl, by decide +kernel, by decide +kernel⟩
theorem c19 : chkSs n19 (defScope (top 28)) nm f19.body (defBody (top 28)) = true := by decide +kernel
theorem s19 : FnScope n19 p19 (defScope (top 28)) := ⟨rfl, rfl, rfl, by decide +kernel, rfl, by decide +kernel, by decide +kernel⟩
theorem c20 : chkSs n20 (defScope (top 29)) nm f20.body (defBody (top 29)) = true := by decide +kernel
theorem s20 : FnScope n20 p20 (defScope (top 29)) := ⟨rfl, rfl, rfl, by decide +kernel, rfl, by decide +kernel, by decide +kernel⟩
theorem c21 : chkSs n21 (defScope (top 30)) nm f21.body (defBody (top 30)) = true := by decide +kernel
theorem s21 : FnScope n21 p21 (defScope (top 30)) := ⟨rfl, rfl, rfl, by decide +kernel, rfl, by decide +kernel, by decide +kernel⟩
theorem c22 : chkSs n22 (defScope (top 31)) nm f22.body (defBody (top 31)) = true := by decide +kernel
theorem s22 : FnScope n22 p22 (defScope (top 31)) := ⟨rfl, rfl, rfl, by decide +kernel, rfl, by decide +kernel, by decide +kernel⟩
def fn : List He.DefD := [⟨("is_among", none), "is_among", "is_among", defArgs (top 7), defBody (top 7), defScope (top 7), [], []⟩, ⟨("given_of", none), "given_of", "given_of", defArgs (top 8), defBody (top 8), defScope (top 8), [], []⟩, ⟨("need_given", none), "need_given", "need_given", defArgs (top 9), defBody (top 9), defScope (top 9), [], []⟩, ⟨("need_seen", none), "need_seen", "need_seen", defArgs (top 10), defBody (top 10), defScope (top 10), [], []⟩, ⟨("need_look", none), "need_look", "need_look", defArgs (top 11), defBody (top 11), defScope (top 11), [], []⟩, ⟨("need_set", none), "need_set", "need_set", defArgs (top 12), defBody (top 12), defScope (top 12), [], []⟩, ⟨("choices", none), "choices", "choices", defArgs (top 14), defBody (top 14), defScope (top 14), [], []⟩, ⟨("filled", none), "filled", "filled", defArgs (top 15), defBody (top 15), defScope (top 15), [], []⟩, ⟨("shown", none), "shown", "shown", defArgs (top 16), defBody (top 16), defScope (top 16), [], []⟩, ⟨("_law_cell", none), "_law_cell", "_law_cell", defArgs (top 18), defBody (top 18), defScope (top 18), [], []⟩, ⟨("_law_mixed", none), "_law_mixed", "_law_mixed", defArgs (top 19), defBody (top 19), defScope (top 19), [], []⟩, ⟨("_law_whole", none), "_law_whole", "_law_whole", defArgs (top 20), defBody (top 20), defScope (top 20), [], []⟩, ⟨("_law_part", none), "_law_part", "_law_part", defArgs (top 21), defBody (top 21), defScope (top 21), [], []⟩, ⟨("_law_work", none), "_law_work", "_law_work", defArgs (top 22), defBody (top 22), defScope (top 22), [], []⟩, ⟨("_law_due", none), "_law_due", "_law_due", defArgs (top 23), defBody (top 23), defScope (top 23), [], []⟩, ⟨("_law_run", none), "_law_run", "_law_run", defArgs (top 24), defBody (top 24), defScope (top 24), [], []⟩, ⟨("_law_given", none), "_law_given", "_law_given", defArgs (top 25), defBody (top 25), defScope (top 25), [], []⟩, ⟨("_law_look", none), "_law_look", "_law_look", defArgs (top 26), defBody (top 26), defScope (top 26), [], []⟩, ⟨("_law_looks", none), "_law_looks", "_law_looks", defArgs (top 27), defBody (top 27), defScope (top 27), [], []⟩, ⟨("_law_all", none), "_law_all", "_law_all", defArgs (top 28), defBody (top 28), defScope (top 28), [], []⟩, ⟨("_law_drawn", none), "_law_drawn", "_law_drawn", defArgs (top 29), defBody (top 29), defScope (top 29), [], []⟩, ⟨("_law_digits", none), "_law_digits", "_law_digits", defArgs (top 30), defBody (top 30), defScope (top 30), [], []⟩, ⟨("law", none), "law", "law", defArgs (top 31), defBody (top 31), defScope (top 31), [], []⟩]
def fa : List He.Fa := [.glo "is_among", .glo "given_of", .glo "need_given", .glo "need_seen", .glo "need_look", .glo "need_set", .glo "choices", .glo "filled", .glo "shown", .glo "_law_cell", .glo "_law_mixed", .glo "_law_whole", .glo "_law_part", .glo "_law_work", .glo "_law_due", .glo "_law_run", .glo "_law_given", .glo "_law_look", .glo "_law_looks", .glo "_law_all", .glo "_law_drawn", .glo "_law_digits", .glo "law", .free "len", .free "list", .free "tuple", .free "int", .free "str", .free "min", .free "max", .free "sorted", .free "all", .free "isinstance", .free "dict", .free "range", .free "set", .free "zip", .free "enumerate", .free "bool", .glo "WorkError", .exc "WorkError", .glo "BadGiven", .exc "BadGiven", .glo "BadLook", .exc "BadLook", .glo "BadSet", .exc "BadSet", .glo "NoLine", .exc "NoLine"]
abbrev R : PySem.W.OpenRow := PySem.W.OpenLaw.row PySem.Challenge.rw_whichbroke_k09_what_a_line_may_show
abbrev hk : PySem.W.Hook := He.hookD 4 fa fn
def ob (s : PySem.W.SharedT) : He.AlD := He.obsDG 4 fa fn (HandSHeadRun.getT s)
theorem ob_eq (s : PySem.W.SharedT) : ob s = hk.obs s.abs := He.obsDG_eq (HandSHeadRun.getT_eq s)
theorem run_eq (w : World) : HandSHeadRun.RunEq R (PySem.W.view R.prog [31]) hk ob 4000 ["WorkError", "BadGiven", "BadLook", "BadSet", "NoLine", "is_among", "given_of", "need_given", "need_seen", "need_look", "need_set", "choices", "filled", "shown", "_law_cell", "_law_mixed", "_law_whole", "_law_part", "_law_work", "_law_due", "_law_run", "_law_given", "_law_look", "_law_looks", "_law_all", "_law_drawn", "_law_digits"] w := by
  intro os
  kernel_rfl
section
variable {P : Program} {w : World} {K : PySem.W.Frag} {h : Heap} {mg : Str → Option Value}
theorem defs (X : K.In h) (Gm : h.Ns mainGlobals mg) (c : He.SaysD fa fn K) : ∀ (f : Nat) (x : Str), nm[f]? = some x → ∃ a fd ps, DefAt P w K mg nm T f x a fd ps := by
  intro f x hx
  rcases f with _ | f
  · cases hx
    obtain ⟨fd, F⟩ := c.def_ 0 rfl
    exact ⟨_, fd, p0, He.glo_ok X Gm (c.fact 0 rfl), F.bindsN fun _ _ _ _ _ _ us hl => match us, hl with | [_, _, _], _ => rfl, n0, _, _, _, _, f0, F, s0, rfl, rfl, rfl, c0⟩
  rcases f with _ | f
  · cases hx
    obtain ⟨fd, F⟩ := c.def_ 1 rfl
    exact ⟨_, fd, p1, He.glo_ok X Gm (c.fact 1 rfl), F.bindsN fun _ _ _ _ _ _ us hl => match us, hl with | [_, _, _], _ => rfl, n1, _, _, _, _, f1, F, s1, rfl, rfl, rfl, c1⟩
  rcases f with _ | f
  · cases hx
    obtain ⟨fd, F⟩ := c.def_ 2 rfl
    exact ⟨_, fd, p2, He.glo_ok X Gm (c.fact 2 rfl), F.bindsN fun _ _ _ _ _ _ us hl => match us, hl with | [_, _], _ => rfl, n2, _, _, _, _, f2, F, s2, rfl, rfl, rfl, c2⟩
  rcases f with _ | f
  · cases hx
    obtain ⟨fd, F⟩ := c.def_ 3 rfl
    exact ⟨_, fd, p3, He.glo_ok X Gm (c.fact 3 rfl), F.bindsN fun _ _ _ _ _ _ us hl => match us, hl with | [_, _], _ => rfl, n3, _, _, _, _, f3, F, s3, rfl, rfl, rfl, c3⟩
  rcases f with _ | f
  · cases hx
    obtain ⟨fd, F⟩ := c.def_ 4 rfl
    exact ⟨_, fd, p4, He.glo_ok X Gm (c.fact 4 rfl), F.bindsN fun _ _ _ _ _ _ us hl => match us, hl with | [_, _], _ => rfl, n4, _, _, _, _, f4, F, s4, rfl, rfl, rfl, c4⟩
  rcases f with _ | f
  · cases hx
    obtain ⟨fd, F⟩ := c.def_ 5 rfl
    exact ⟨_, fd, p5, He.glo_ok X Gm (c.fact 5 rfl), F.bindsN fun _ _ _ _ _ _ us hl => match us, hl with | [_, _], _ => rfl, n5, _, _, _, _, f5, F, s5, rfl, rfl, rfl, c5⟩
  rcases f with _ | f
  · cases hx
    obtain ⟨fd, F⟩ := c.def_ 6 rfl
    exact ⟨_, fd, p6, He.glo_ok X Gm (c.fact 6 rfl), F.bindsN fun _ _ _ _ _ _ us hl => match us, hl with | [_, _, _, _], _ => rfl, n6, _, _, _, _, f6, F, s6, rfl, rfl, rfl, c6⟩
  rcases f with _ | f
  · cases hx
    obtain ⟨fd, F⟩ := c.def_ 7 rfl
    exact ⟨_, fd, p7, He.glo_ok X Gm (c.fact 7 rfl), F.bindsN fun _ _ _ _ _ _ us hl => match us, hl with | [_, _, _, _], _ => rfl, n7, _, _, _, _, f7, F, s7, rfl, rfl, rfl, c7⟩
  rcases f with _ | f
  · cases hx
    obtain ⟨fd, F⟩ := c.def_ 8 rfl
    exact ⟨_, fd, p8, He.glo_ok X Gm (c.fact 8 rfl), F.bindsN fun _ _ _ _ _ _ us hl => match us, hl with | [_, _, _, _], _ => rfl, n8, _, _, _, _, f8, F, s8, rfl, rfl, rfl, c8⟩
  rcases f with _ | f
  · cases hx
    obtain ⟨fd, F⟩ := c.def_ 9 rfl
    exact ⟨_, fd, p9, He.glo_ok X Gm (c.fact 9 rfl), F.bindsN fun _ _ _ _ _ _ us hl => match us, hl with | [_, _], _ => rfl, n9, _, _, _, _, f9, F, s9, rfl, rfl, rfl, c9⟩
  rcases f with _ | f
  · cases hx
    obtain ⟨fd, F⟩ := c.def_ 10 rfl
    exact ⟨_, fd, p10, He.glo_ok X Gm (c.fact 10 rfl), F.bindsN fun _ _ _ _ _ _ us hl => match us, hl with | [_, _], _ => rfl, n10, _, _, _, _, f10, F, s10, rfl, rfl, rfl, c10⟩
  rcases f with _ | f
  · cases hx
    obtain ⟨fd, F⟩ := c.def_ 11 rfl
    exact ⟨_, fd, p11, He.glo_ok X Gm (c.fact 11 rfl), F.bindsN fun _ _ _ _ _ _ us hl => match us, hl with | [_], _ => rfl, n11, _, _, _, _, f11, F, s11, rfl, rfl, rfl, c11⟩
  rcases f with _ | f
  · cases hx
    obtain ⟨fd, F⟩ := c.def_ 12 rfl
    exact ⟨_, fd, p12, He.glo_ok X Gm (c.fact 12 rfl), F.bindsN fun _ _ _ _ _ _ us hl => match us, hl with | [_, _], _ => rfl, n12, _, _, _, _, f12, F, s12, rfl, rfl, rfl, c12⟩
  rcases f with _ | f
  · cases hx
    obtain ⟨fd, F⟩ := c.def_ 13 rfl
    exact ⟨_, fd, p13, He.glo_ok X Gm (c.fact 13 rfl), F.bindsN fun _ _ _ _ _ _ us hl => match us, hl with | [_, _], _ => rfl, n13, _, _, _, _, f13, F, s13, rfl, rfl, rfl, c13⟩
  rcases f with _ | f
  · cases hx
    obtain ⟨fd, F⟩ := c.def_ 14 rfl
    exact ⟨_, fd, p14, He.glo_ok X Gm (c.fact 14 rfl), F.bindsN fun _ _ _ _ _ _ us hl => match us, hl with | [_, _, _], _ => rfl, n14, _, _, _, _, f14, F, s14, rfl, rfl, rfl, c14⟩
  rcases f with _ | f
  · cases hx
    obtain ⟨fd, F⟩ := c.def_ 15 rfl
    exact ⟨_, fd, p15, He.glo_ok X Gm (c.fact 15 rfl), F.bindsN fun _ _ _ _ _ _ us hl => match us, hl with | [_, _, _], _ => rfl, n15, _, _, _, _, f15, F, s15, rfl, rfl, rfl, c15⟩
  rcases f with _ | f
  · cases hx
    obtain ⟨fd, F⟩ := c.def_ 16 rfl
    exact ⟨_, fd, p16, He.glo_ok X Gm (c.fact 16 rfl), F.bindsN fun _ _ _ _ _ _ us hl => match us, hl with | [_, _], _ => rfl, n16, _, _, _, _, f16, F, s16, rfl, rfl, rfl, c16⟩
  rcases f with _ | f
  · cases hx
    obtain ⟨fd, F⟩ := c.def_ 17 rfl
    exact ⟨_, fd, p17, He.glo_ok X Gm (c.fact 17 rfl), F.bindsN fun _ _ _ _ _ _ us hl => match us, hl with | [_, _, _], _ => rfl, n17, _, _, _, _, f17, F, s17, rfl, rfl, rfl, c17⟩
  rcases f with _ | f
  · cases hx
    obtain ⟨fd, F⟩ := c.def_ 18 rfl
    exact ⟨_, fd, p18, He.glo_ok X Gm (c.fact 18 rfl), F.bindsN fun _ _ _ _ _ _ us hl => match us, hl with | [_, _, _, _], _ => rfl, n18, _, _, _, _, f18, F, s18, rfl, rfl, rfl, c18⟩
  rcases f with _ | f
  · cases hx
    obtain ⟨fd, F⟩ := c.def_ 19 rfl
    exact ⟨_, fd, p19, He.glo_ok X Gm (c.fact 19 rfl), F.bindsN fun _ _ _ _ _ _ us hl => match us, hl with | [_, _, _, _], _ => rfl, n19, _, _, _, _, f19, F, s19, rfl, rfl, rfl, c19⟩
  rcases f with _ | f
  · cases hx
    obtain ⟨fd, F⟩ := c.def_ 20 rfl
    exact ⟨_, fd, p20, He.glo_ok X Gm (c.fact 20 rfl), F.bindsN fun _ _ _ _ _ _ us hl => match us, hl with | [_, _], _ => rfl, n20, _, _, _, _, f20, F, s20, rfl, rfl, rfl, c20⟩
  rcases f with _ | f
  · cases hx
    obtain ⟨fd, F⟩ := c.def_ 21 rfl
    exact ⟨_, fd, p21, He.glo_ok X Gm (c.fact 21 rfl), F.bindsN fun _ _ _ _ _ _ us hl => match us, hl with | [_, _, _, _], _ => rfl, n21, _, _, _, _, f21, F, s21, rfl, rfl, rfl, c21⟩
  rcases f with _ | f
  · cases hx
    obtain ⟨fd, F⟩ := c.def_ 22 rfl
    exact ⟨_, fd, p22, He.glo_ok X Gm (c.fact 22 rfl), F.bindsN fun _ _ _ _ _ _ us hl => match us, hl with | [_], _ => rfl, n22, _, _, _, _, f22, F, s22, rfl, rfl, rfl, c22⟩
  cases hx
theorem free (X : K.In h) (Gm : h.Ns mainGlobals mg) (c : He.SaysD fa fn K) : ∀ x ∈ builtinNames, mg x = none := by
  intro x hx
  unfold builtinNames at hx
  simp only [List.mem_cons, List.not_mem_nil, or_false] at hx
  rcases hx with rfl | rfl | rfl | rfl | rfl | rfl | rfl | rfl | rfl | rfl | rfl | rfl | rfl | rfl | rfl | rfl
  · exact He.free_ok X Gm (c.fact 23 rfl)
  · exact He.free_ok X Gm (c.fact 24 rfl)
  · exact He.free_ok X Gm (c.fact 25 rfl)
  · exact He.free_ok X Gm (c.fact 26 rfl)
  · exact He.free_ok X Gm (c.fact 27 rfl)
  · exact He.free_ok X Gm (c.fact 28 rfl)
  · exact He.free_ok X Gm (c.fact 29 rfl)
  · exact He.free_ok X Gm (c.fact 30 rfl)
  · exact He.free_ok X Gm (c.fact 31 rfl)
  · exact He.free_ok X Gm (c.fact 32 rfl)
  · exact He.free_ok X Gm (c.fact 33 rfl)
  · exact He.free_ok X Gm (c.fact 34 rfl)
  · exact He.free_ok X Gm (c.fact 35 rfl)
  · exact He.free_ok X Gm (c.fact 36 rfl)
  · exact He.free_ok X Gm (c.fact 37 rfl)
  · exact He.free_ok X Gm (c.fact 38 rfl)
def exv (K : PySem.W.Frag) : Str → Option Addr := fun x => if Z x then some (He.ga K x) else none
theorem exs (X : K.In h) (Gm : h.Ns mainGlobals mg) (c : He.SaysD fa fn K) : ∀ x, Z x = true → ∃ C, exv K x = some C ∧ RaiseAt K mg x C := by
  intro x hx
  refine ⟨He.ga K x, by unfold exv; rw [if_pos hx], ?_⟩
  have hm : x ∈ excs := List.contains_iff_mem.mp hx
  unfold excs at hm
  simp only [List.mem_cons, List.not_mem_nil, or_false] at hm
  rcases hm with rfl | rfl | rfl | rfl | rfl
  · obtain ⟨e1, e2, e3, e4⟩ := He.exc_ok (c.fact 40 rfl)
    exact ⟨_, _, _, _, veFacts, e1, He.glo_ok X Gm (c.fact 39 rfl), e2, e3, e4⟩
  · obtain ⟨e1, e2, e3, e4⟩ := He.exc_ok (c.fact 42 rfl)
    exact ⟨_, _, _, _, veFacts, e1, He.glo_ok X Gm (c.fact 41 rfl), e2, e3, e4⟩
  · obtain ⟨e1, e2, e3, e4⟩ := He.exc_ok (c.fact 44 rfl)
    exact ⟨_, _, _, _, veFacts, e1, He.glo_ok X Gm (c.fact 43 rfl), e2, e3, e4⟩
  · obtain ⟨e1, e2, e3, e4⟩ := He.exc_ok (c.fact 46 rfl)
    exact ⟨_, _, _, _, veFacts, e1, He.glo_ok X Gm (c.fact 45 rfl), e2, e3, e4⟩
  · obtain ⟨e1, e2, e3, e4⟩ := He.exc_ok (c.fact 48 rfl)
    exact ⟨_, _, _, _, veFacts, e1, He.glo_ok X Gm (c.fact 47 rfl), e2, e3, e4⟩
theorem facts {f : Addr} (law : ∀ ns : List Int, ns.length ≤ 63 → PyV.run T G Z 19 22 [.frz (ns.map PyV.D.int)] = .ok (.bl true)) (X : K.In h) (Gm : h.Ns mainGlobals mg) (hfa : mg ("law" : Str) = some (.ref f)) (c : He.SaysD fa fn K) :
    ∃ (fd : FuncData) (sp : Sp), (∀ (s : Shared) (v : Value), BindsTo s fd ⟨[v], []⟩ [("_law_script", v)]) ∧ (∀ (H : Hp) (a : Addr) (ns : List Int), ns.length ≤ 63 → Only H → SqL K H a (ns.map V.int) → sp [.ref a] H (fun v _ => v = .bl true) fun _ _ _ => False) ∧
      ∀ base : Heap, FnOk P w K mg base L2.CX0 19 f fd p22 sp := by
  obtain ⟨fd, F⟩ := c.def_ 22 rfl
  have e := hfa.symm.trans (He.glo_ok X Gm (c.fact 22 rfl))
  cases e
  have b := FunD.bindsA (ps := p22) F fun _ _ _ _ _ _ us hl => match us, hl with | [_], _ => rfl
  refine ⟨fd, spL (fun _ => True) K (PyV.run T G Z 19 22), fun s v => b s [v] rfl, fun H a ns hl ho hs => law_sp trivial ho hs (law ns hl), fun base => ?_⟩
  exact PyV.law_fn jok_true (free X Gm c) (exs X Gm c) (fun x d z => by cases z) rfl (defs X Gm c) 18 22 "law" _ fd p22 ⟨He.glo_ok X Gm (c.fact 22 rfl), F.bindsN fun _ _ _ _ _ _ us hl => match us, hl with | [_], _ => rfl, n22, _, _, _, _, f22, F, s22, rfl, rfl, rfl, c22⟩
end
end PyK09
open PySem PySem.W PySem.Calls PyProof.Rows
theorem PySem.Challenge.cw_whichbroke_k09_what_a_line_may_show_holds : PySem.Challenge.rw_whichbroke_k09_what_a_line_may_show.Holds := by
  w_on; o_law
  refine HandSHeadRun.head_any (r := OpenLaw.row PySem.Challenge.rw_whichbroke_k09_what_a_line_may_show) (q := view (OpenLaw.row PySem.Challenge.rw_whichbroke_k09_what_a_line_may_show).prog [31]) (H := PyK09.hk) (ob := PyK09.ob) (M := 4000) (loose := ["WorkError", "BadGiven", "BadLook", "BadSet", "NoLine", "is_among", "given_of", "need_given", "need_seen", "need_look", "need_set", "choices", "filled", "shown", "_law_cell", "_law_mixed", "_law_whole", "_law_part", "_law_work", "_law_due", "_law_run", "_law_given", "_law_look", "_law_looks", "_law_all", "_law_drawn", "_law_digits"]) (d := HandSHeadRun.topDef (OpenLaw.row PySem.Challenge.rw_whichbroke_k09_what_a_line_may_show).prog 31) (kwd := []) PyK09.ob_eq
    (by kernel_rfl) (fun s => by kernel_rfl) PyK09.run_eq (by kernel_rfl) (by kernel_rfl) (by kernel_rfl) (by rfl) (by first | assumption | decide +kernel) (by decide +kernel) ⟨rfl, rfl, rfl, rfl, rfl, by decide +kernel⟩ ?hw ?hc
  case hw => w_witness2
  case hc =>
    refine L2.walk_ofE (l := PySem.Challenge.rw_whichbroke_k09_what_a_line_may_show) (n := 63) (k := 19) (x := "_law_script") (CX := L2.CX0) rfl (by decide) (by kernel_rfl) ⟨rfl, by decide, by decide⟩ ?F (fun _ _ _ _ z => z)
    intro w mg fa h Y Gm hmg0
    obtain ⟨K, KX, c⟩ := Y
    have hmg : mg ("law" : PySem.Str) = some (.ref fa) := by
      have e : (HandSHeadRun.topDef (OpenLaw.row PySem.Challenge.rw_whichbroke_k09_what_a_line_may_show).prog 31).name = ("law" : PySem.Str) := by kernel_rfl
      rw [← e]
      exact hmg0
    obtain ⟨fd, sp, hb, hs, hF⟩ := PyK09.facts (P := (PySem.Challenge.rw_whichbroke_k09_what_a_line_may_show).prog) (w := w) PyK09.law_ok KX Gm hmg c
    exact ⟨K, fd, sp, KX, hb, fun H a ns hl ho hS => hs H a ns hl ho hS, fun base _ _ => hF base⟩
